/- Part of a proof. -/
import Derived.Test.YtbhpocnedbajlaaGreatDoorQ01
import Derived.Conc.WgGenN3
set_option maxRecDepth 100000
set_option maxHeartbeats 6400000
noncomputable section
set_option linter.all false
def n! {p:Prop}(h:p:=by k_ne):p:=h
open Array renaming mem_of_getElem?->zY,getElem?_eq_some_iff->Za,getElem?_push_lt->Zd3,getElem?_eq_getElem->Zx,getElem?_setIfInBounds_ne->Zk,getElem?_push_size->Zav,getElem?_setIfInBounds_self_of_lt->ZV
open Classical renaming choose->zo,choose_spec->zv
open Go renaming TypeId->Zs,World->Zb,Goroutine->Zi,Program->Zo,Event->Z9,stepG->za,Trace->YZ,HappensBefore->Zbw,mayWake->ZcH,Value->Zf,undef->Ze,FuncId->ZaQ,deafBehind->zV,runNT->ZaE,Frame->ZM
open Go.Act renaming eval->ZbM
open Go.Conc renaming touchAt->ZaR,touch_of->ZbE,getElem?_append_cases->Yy,getElem?_append_old->YS,touchAt_of->Zcv,noRace_append->Zcl,semEvents->Zax,QuitsD->ZcA,served->YU,Deaf_other->Y0,mem_ofEvents->ZQ,crowd->Yj,ofEvents_eq->Zb7,runT_crowd_go->Zb1,aside_setCell->Y8,stepG_seq->Zn,stepG_region_end->Zg,stepG_markAt->ZbN,stepG_mark0->Zb6,stepG_skip->ZU,stepG_add_atomic->Zap,stepG_ret'->z8,stepG_load_atomic->Zbp,stepG_block->Zbq
open Go.Conc.Goes renaming rely->Yb,running->zt,stop->ZT,cases->zT
open Go.ConcN renaming Mode->Ye,Vc_le->ZdS,get_map_set_same->Zbo,get_map_set->Zcb,st_flag->Za6,st_waiters->ZaG
open Go.ConcN.Mode renaming last->Zb4
open Go.ConcR renaming ofEvent_loc_mark->zI,ofEvent_cell->Zc4,ofEvent_mk->Zdq
open Go.Extern.Race renaming none_->Zdn
open Go.IntKind renaming wrap_u64->Zbc,wrap_i32->Za8
open Go.MemAct renaming touch?->Yg,ofEvent->ZR,mark->ZdA
open Go.MemOp renaming ofEvents->ZK
open Go.Sem renaming bind->Zb8
open Go.Trace renaming g?->Zal
open Go.World renaming setChan->ZbS,setCell->Z8
open List renaming mem_append->Zab,map_append->Zai,getElem?_toArray->ZG,getElem?_cons_zero->ZC
open Nat renaming le_refl->Zj,zero_le->Zp,lt_of_lt_of_le->Zl,le_trans->Zr,lt_or_ge->Zar,lt_wfRel->ZdJ,le_of_eq->ZcS,eq_zero_or_pos->zQ,le_of_not_lt->Zdl
open Ne renaming symm->Za0
open Option renaming map_eq_some_iff->zc,map_some->Zdh,getD_some->Zw
open Option.some renaming injEq->ZJ,inj->ZW
open Prod renaming Lex->ZcP,lex->ZcO
open Prod.Lex renaming left->ZaY,right->zB
namespace Go.Pair
open Go Go.Conc Go.FA
open Go.ConcN (PermW fork_knows RelBy Deaf_absent Deaf_still WgLive)
open Go.ConcR (WgAt stA smA)
def Mw (Wg:Nat)(l:Loc):Prop:=∃a:Addr,l=.cell a/\a.block=Wg
def blk:Loc->Option Nat
 | .cell a=>some a.block
 | .obj r=>some r
 |_=>none
structure Ah (ty:Zs)(Wg:Nat)(S:Nat->Prop)(w w₂:Zb):Prop where
 base:D1 S w w₂
 live:WgLive ty Wg w->WgLive ty Wg w₂
section
variable {ty:Zs}{Wg:Nat}{S:Nat->Prop}{w w₁ w₂:Zb}
def Ah.refl (w:Zb):Ah ty Wg S w w:=⟨D1.refl _ _,id⟩
def Ah.trans (h:Ah ty Wg S w w₁)(k:Ah ty Wg S w₁ w₂):Ah ty Wg S w w₂:=⟨h.base.trans k.base,k.live∘h.live⟩
def Ah.at (w:Zb)(d:Nat):Ah ty Wg S w (w.at d):=⟨gw S w d,id⟩
end
def Hu (S:Nat->Prop)(w:Zb):Ib S w w=S:=by
 funext b
 apply propext;unfold Ib;constructor
 .rintro(h|⟨h,k⟩)
  .exact h
  omega
 exact .inl
variable {w w' w₁ w₂ w₀:Zb}
def R8 (S:Nat->Prop){u:Zb}(h:w'=u.heap.size):Ib S w w'=Ib S w u:=by
 unfold Ib;rw[h]
abbrev Cd:=(Nat->Prop)->Zi->Zb->Prop
inductive Be (P:Zo)(m:Bool)(ty:Zs)(Wg:Nat)(Lk:Nat->Prop)(Stop:Cd):(Nat->Prop)->Zi->Zb->Prop
 |stop {S:Nat->Prop} {g:Zi} {w:Zb} (h:∀w₂,Ah ty Wg S w w₂->Stop S g w₂):Be P m ty Wg Lk Stop S g w
 |step {S:Nat->Prop} {g:Zi} {w:Zb} (hs:g.status=.running) (GI:Zb->Zi) (EP:Zb->Zb) (I6:Zb->Array Z9)
   (h:∀w₂,Ah ty Wg S w w₂->za P m g w₂=.go (GI w₂) (EP w₂) (I6 w₂)/\LN S Lk w₂ (EP w₂) (I6 w₂)) (k:∀w₂,Ah ty Wg S w w₂->Be P m ty Wg Lk Stop (Ib S w₂ (EP w₂)) (GI w₂) (EP w₂)):Be P m ty Wg Lk Stop S g w
section
variable {P:Zo}{m:Bool}{ty:Zs}{Wg:Nat}{Lk:Nat->Prop}{Stop Stop₂:Cd}{S:Nat->Prop}{g:Zi}{w w₁:Zb}
open Classical in
def Be.XS (d:g.status=.running)
 (c:∀w₂,Ah ty Wg S w w₂->∃b w₁ es,za P m g w₂=.go b w₁ es/\LN S Lk w₂ w₁ es/\Be P m ty Wg Lk Stop (Ib S w₂ w₁) b w₁):Be P m ty Wg Lk Stop S g w:=by
 have a:∀w₂,∃p:Zi×Zb×Array Z9,Ah ty Wg S w w₂->za P m g w₂=.go p.1 p.2.1 p.2.2/\LN S Lk w₂ p.2.1 p.2.2/\Be P m ty Wg Lk Stop (Ib S w₂ p.2.1) p.1 p.2.1:=by
  intro w₂;by_cases h:Ah ty Wg S w w₂
  .obtain⟨b,w₁,es,i,f,e⟩:=c w₂ h
   exact⟨(b,w₁,es),λ_=>⟨i,f,e⟩⟩
  exact⟨(g,w,#[]),λx=>absurd x h⟩
 refine .step d (λw₂=>(zo (a w₂)).1) (λw₂=>(zo (a w₂)).2.1) (λw₂=>(zo (a w₂)).2.2) (λw₂ h=>?_) λw₂ h=>?_
 .exact⟨(zv (a w₂) h).1,(zv (a w₂) h).2.1⟩
 exact(zv (a w₂) h).2.2
def Be.imp (h:Be P m ty Wg Lk Stop S g w)(hi:∀S g w,Stop S g w->Stop₂ S g w):Be P m ty Wg Lk Stop₂ S g w:=by
 induction h with
 |stop h=>exact .stop λw₂ f=>hi _ _ _ (h w₂ f)
 |step b d e c h _ a=>exact .step b d e c h a
def Be.bind (h:Be P m ty Wg Lk Stop S g w)(hi:∀S g w,(∀w₂,Ah ty Wg S w w₂->Stop S g w₂)->Be P m ty Wg Lk Stop₂ S g w):Be P m ty Wg Lk Stop₂ S g w:=by
 induction h with
 |stop h=>exact hi _ _ _ h
 |step b d e c h _ a=>exact .step b d e c h a
def Be.of_run (h:Xe P m Lk Stop S g w):Be P m ty Wg Lk Stop S g w:=by
 induction h with
 |stop h=>exact .stop λw₂ a=>h w₂ a.base
 |step c e f d h _ b=>exact .step c e f d (λw₂ a=>h w₂ a.base) λw₂ a=>b w₂ a.base
def jC (S Lk:Nat->Prop)(w:Zb):LN S Lk w w #[]:=⟨Zj _,λ_ _ _=>rfl,rfl,rfl,rfl,λe a=>by simp at a⟩
def Be.G2 {St:Cd}:∀ {n:Nat} {g:Zi} {w:Zb},Goes P m (Ah ty Wg S) Go.ConcR.DC0 (St S) n g w->Be P m ty Wg Lk St S g w:=by
 intro n
 induction n with
 |zero=>intro g w h;exact .stop h
 |succ n b=>
  intro g w h;rcases h with h|⟨c,h⟩
  .exact .stop h
  refine .XS c λw₂ d=>?_;have:=h w₂ d;cases a:za P m g w₂ with
  |go i w₁ f=>
   rw[a,goes_go]at this;obtain⟨⟨rfl,rfl⟩,e⟩:=this;exact⟨_,_,_,rfl,jC _ _ _,by rw[Hu];exact b e⟩
  |_=>rw[a]at this;exact this.elim
abbrev St:=(Nat->Prop)×Zi×Zb
def Child (P:Zo)(ty:Zs)(Wg:Nat)(y x:Bool×Cd×St):Prop:=
 y.1=x.1/\y.2.1=x.2.1/\(¬∀w₂,Ah ty Wg x.2.2.1 x.2.2.2.2 w₂->x.2.1 x.2.2.1 x.2.2.2.1 w₂)/\
  ∃w₂ a,Ah ty Wg x.2.2.1 x.2.2.2.2 w₂/\za P x.1 x.2.2.2.1 w₂=.go y.2.2.2.1 y.2.2.2.2 a/\y.2.2.1=Ib x.2.2.1 w₂ y.2.2.2.2
def Be.acc (h:Be P m ty Wg Lk Stop S g w):Acc (Child P ty Wg) (m,Stop,S,g,w):=by
 induction h with
 |stop h=>exact⟨_,λy a=>absurd h a.2.2.1⟩
 | @step S g w l r s q h _ i=>
  refine⟨_,λy a=>?_⟩;obtain⟨k,j,p,n,w'⟩:=y;obtain⟨f,e,_,w₂,o,b,c,d⟩:=a;dsimp only at f e b c d;subst f e;rw[(h w₂ b).1]at c;cases c;rw[d];exact i w₂ b
def Fuel (P:Zo)(ty:Zs)(Wg:Nat):Type:= {x:Bool×Cd×St // Acc (Child P ty Wg) x}
def Fuel.lt {P:Zo}{ty:Zs}{Wg:Nat}(a b:Fuel P ty Wg):Prop:=Child P ty Wg a.1 b.1
def Fuel.wf (P:Zo)(ty:Zs)(Wg:Nat):WellFounded (@Fuel.lt P ty Wg):=by
 refine⟨λ⟨x,a⟩=>?_⟩
 induction a with
 |intro x a b=>
  exact⟨_,λ⟨y,d⟩ c=>b y c⟩
end
def Be.fuel {P:Zo}{m:Bool}{ty:Zs}{Wg:Nat}{Lk:Nat->Prop}{a:Cd}{S:Nat->Prop}{g:Zi}{w:Zb}(h:Be P m ty Wg Lk a S g w):Fuel P ty Wg:=⟨(m,a,S,g,w),h.acc⟩
section
def Fuel.none (P:Zo)(ty:Zs)(Wg:Nat):Fuel P ty Wg:=
 ⟨(false,λ_ _ _=>True,λ_=>False,default,default),⟨_,λ_ a=>absurd (λ_ _=>trivial) a.2.2.1⟩⟩
end
end Go.Pair
namespace Go.Pair
open Go Go.Conc Go.FA
open Go.ConcN (PermW fork_knows RelBy Deaf_absent Deaf_still)
open Go.ConcR (WgAt stA smA g_of_ofEvents)
def ix (K:Nat):Nat->Nat
 |0=>0
 |i+1=>K+i
structure JJ where
 S:Nat->Nat->Prop
 L:Nat->Nat->Prop
structure TI (K Wg:Nat)(Shun:Loc->Prop)(H:JJ)(j n:Nat)(t:YZ):Prop where
 nr:∀said,¬Race said t
 seen:∀op∈t,op.act.low n
 kn:∀i a,ZaR t i=some a->a.loc.isMemory=true->Knows t 0 i\/(Shun a.loc/\a.kind=.atomic)\/∃p,1<=p/\p<=j/\t.g? i=some (ix K p)
 pw:∀p,p<=j->∀b,H.S p b->∀l,blk l=some b->PermW t (ix K p) l
 pr:∀p,p<=j->∀b,H.S p b->¬H.L p b->∀l,blk l=some b->Perm t (ix K p) l
 wq:∀i a,ZaR t i=some a->Mw Wg a.loc->(a.kind=.plain->∀p,p<=j->Knows t (ix K p) i)/\(a.kind=.said->Knows t 0 i)
 ov:∀i g,t.g? i=some g->g≠0->t.counts i->(∃k,t.g? k=some 0/\Zbw t i k)\/∃p,1<=p/\p<=j/\g=ix K p
structure Apt (Wg:Nat)(H:JJ)(j n:Nat):Prop where
 two:∀p q,p<=j->q<=j->p≠q->∀b,H.S p b->H.S q b->H.L p b
 wg:∀p,p<=j->¬H.S p Wg
 low:∀p,p<=j->∀b,H.S p b->b<n
def JJ.set (H:JJ)(p:Nat)(S L:Nat->Prop):JJ:=⟨λq=>if q=p then S else H.S q,λq=>if q=p then L else H.L q⟩
section
variable {K Wg:Nat}{Shun:Loc->Prop}{H:JJ}{j n n':Nat}{t u:YZ}
def A6 (p:Nat)(S L:Nat->Prop):(H.set p S L).S p=S/\(H.set p S L).L p=L:=by simp[JJ.set]
variable {p b i k s' e' m' dd' d KP f' m:Nat}
def BB {q:Nat}(h:q≠p)(S L:Nat->Prop):(H.set p S L).S q=H.S q/\(H.set p S L).L q=H.L q:=by simp[JJ.set,h]
variable {l:Loc}
def sX (h:blk l=some b){B:Nat}:l.low B↔b<B:=by
 cases l<;>simp[blk]at h<;>subst h<;>rfl
variable {a:Touch}
def UF (h:∀op∈t,op.act.low n)(g:ZaR t i=some a)(d:blk a.loc=some b)(j:n<=b):False:=by
 obtain⟨x,f,c⟩:=ZbE g;have:=h x (zY f);generalize x.act=act at this c;cases act with
 |access e=>
  simp only[Yg,ZJ]at c;subst c;have:=(sX d).1 this;omega
 |mark m=>
  cases m<;>simp only[Yg,ZJ,reduceCtorEq]at c
  all_goals
   subst c;simp only[blk,ZJ]at d;have:_<n:=this;omega
 |_=>simp[Yg]at c
def dz (h:∀i g,t.g? i=some g->g≠0->t.counts i->(∃k,t.g? k=some 0/\Zbw t i k)\/∃p,1<=p/\p<=j/\g=ix K p)(v:∀op∈u,op.g=0\/(∃p,1<=p/\p<=j/\op.g=ix K p)\/op.act.touch?=none):
  ∀i g,(t++u).g? i=some g->g≠0->(t++u).counts i->(∃k,(t++u).g? k=some 0/\Zbw (t++u) i k)\/∃p,1<=p/\p<=j/\g=ix K p:=by
 intro i g m o n;have C:=n;obtain⟨x,s,_⟩:=C;obtain⟨op,b,a⟩:=ZbE s;rcases Yy b with⟨l,D⟩|⟨_,f⟩
 .rcases h i g (by simpa[Zal,YS l]using m) o ((counts_old l).1 n) with⟨k,d,w⟩|z
  .have q:k<t.size:=by
    unfold Zal at d;obtain⟨z,r,_⟩:=zc.1 d;exact lt_size_of_getElem? r
   exact .inl ⟨k,by simpa[Zal,YS q]using d,hb_app u w⟩
  exact .inr z
 have c:op.g=g:=by simpa[Zal,b]using m
 rcases v op f with e|⟨p,B,A,y⟩|e
 .exact absurd (c.symm.trans e) o
 .exact .inr ⟨p,B,A,c.symm.trans y⟩
 rw[e]at a;cases a
variable {S L T₀ S' L':Nat->Prop}
def TI.grow (h:TI K Wg Shun H j n t)(s:n<=n')(o:∀b,S b->H.S p b\/n<=b)(u:∀b,H.L p b->S b->L b):TI K Wg Shun (H.set p S L) j n' t:=by
 refine⟨h.nr,λr k=>MemAct.low_mono s (h.seen r k),h.kn,λq f b c l d=>?_,λq f b c g l d=>?_,h.wq,h.ov⟩
 .by_cases e:q=p
  .subst e
   rw[(A6 q S L).1]at c;rcases o b c with x|x
   .exact h.pw q f b x l d
   exact λi a m e _=>(UF h.seen m (e▸d) x).elim
  rw[(BB e S L).1]at c;exact h.pw q f b c l d
 by_cases e:q=p
 .subst e
  rw[(A6 q S L).1]at c;rw[(A6 q S L).2]at g;rcases o b c with x|x
  .exact h.pr q f b x (λy=>g (u b y c)) l d
  exact λi a m e=>(UF h.seen m (e▸d) x).elim
 rw[(BB e S L).1]at c;rw[(BB e S L).2]at g;exact h.pr q f b c g l d
def Fj (h:blk l=some b):l.isMemory=true:=by
 cases l<;>simp[blk]at h<;>rfl
def KQ (h:Mw Wg l):blk l=some Wg:=by
 obtain⟨a,rfl,rfl⟩:=h;rfl
def TI.app (h:TI K Wg Shun H j n t)(A:Apt Wg H j n)(hp:p<=j)(D:∀op∈u,op.g=ix K p)(hl:∀op∈u,op.act.low n)
 (G:∀op∈u,∀x,op.act.touch?=some x->(Mw Wg x.loc/\x.kind≠ .plain/\(x.kind=.said->p=0))\/(∃b,blk x.loc=some b/\H.S p b/\(x.write=true->¬H.L p b))\/x.loc.isMemory=false):TI K Wg Shun H j n (t++u):=by
 have own:∀ {i:Nat} {a:Touch},ZaR (t++u) i=some a->(i<t.size/\ZaR t i=some a)\/(Knows (t++u) (ix K p) i/\(t++u).g? i=some (ix K p)/\∃op∈u,op.act.touch?=some a):=by
  intro i a y;obtain⟨x,o,O⟩:=ZbE y;rcases Yy o with⟨J,R⟩|⟨_,C⟩
  .exact .inl ⟨J,by rw[Zcv R];exact O⟩
  have:=knows_own o;rw[D x C]at this;exact .inr ⟨this,by simp[Zal,o,D x C],x,C,O⟩
 refine⟨λE=>Zcl (h.nr E) D λi a y op f b v T=>?_,seen_app h.seen hl,λi a y I=>?_,λq s b v l z=>(h.pw q s b v l z).app λop f x o e B=>?_,
  λq s b v P l z=>(h.pr q s b v P l z).app λop f x o e=>?_,λi a y B=>?_,dz h.ov λop f=>?_⟩
 .obtain⟨L,I,B,F⟩:=T
  rcases G op f b v with⟨d,g,r⟩|⟨c,d,g,r⟩|d
  .have:=h.wq i a y (L▸d)
   rcases F with k|k|⟨_,k,S⟩
   .exact this.1 k p hp
   .exact absurd k g
   have M:=r S;subst M;exact this.2 k
  .cases Q:b.write with
   |true=>exact h.pr p hp c g (r Q) b.loc d i a y L
   |false=>
    have:a.write=true:=by
     rcases B with x|x
     .exact x
     rw[Q]at x;cases x
    exact h.pw p hp c g b.loc d i a y L this
  .rw[<-L]at d
   rw[d]at I;cases I
 .rcases own y with⟨J,w⟩|⟨F,N,op,f,o⟩
  .rcases h.kn i a w I with x|x|⟨q,d,g,r⟩
   .exact .inl (x.app u)
   .exact .inr (.inl x)
   refine .inr (.inr ⟨q,d,g,?_⟩);simpa[Zal,YS J]using r
  cases p with
  |zero=>exact .inl F
  |succ p=>exact .inr (.inr ⟨p+1,o!,hp,N⟩)
 .by_cases m:p=q
  .subst m;exact D op f
  exfalso;rcases G op f x o with⟨d,_⟩|⟨c,d,g,r⟩|d
  .rw[e]at d
   have:=KQ d;rw[z]at this;cases this;exact A.wg q s v
  .rw[e,z]at d
   cases d;exact r B (A.two p q hp s m b g v)
  rw[e,Fj z]at d;cases d
 .by_cases m:p=q
  .subst m;exact D op f
  exfalso;rcases G op f x o with⟨d,_⟩|⟨c,d,g,r⟩|d
  .rw[e]at d
   have:=KQ d;rw[z]at this;cases this;exact A.wg q s v
  .rw[e,z]at d
   cases d;exact P (A.two q p s hp (Za0 m) b v g)
  rw[e,Fj z]at d;cases d
 .rcases own y with⟨J,w⟩|⟨F,N,op,f,o⟩
  .exact⟨λx q s=>((h.wq i a w B).1 x q s).app u,λx=>((h.wq i a w B).2 x).app u⟩
  rcases G op f a o with⟨_,g,r⟩|⟨c,d,g,_⟩|d
  .refine⟨λx=>absurd x g,λx=>?_⟩
   have:=r x;subst this;exact F
  .rw[KQ B]at d
   cases d;exact absurd g (A.wg p hp)
  rw[Fj (KQ B)]at d;cases d
 rw[D op f];cases p with
 |zero=>exact .inl rfl
 |succ p=>exact .inr (.inl ⟨p+1,o!,hp,rfl⟩)
def TI.mute (h:TI K Wg Shun H j n t){g:Nat}(E:∀op∈u,op.g=g)(hl:∀op∈u,op.act.low n)(r:∀op∈u,op.act.touch?=none):TI K Wg Shun H j n (t++u):=by
 have m:∀ {i:Nat} {a:Touch},ZaR (t++u) i=some a->i<t.size/\ZaR t i=some a:=by
  intro i a s;obtain⟨z,C,e⟩:=ZbE s;rcases Yy C with⟨v,y⟩|⟨_,w⟩
  .exact⟨v,by rw[Zcv y];exact e⟩
  rw[r z w]at e;cases e
 refine⟨λk=>Zcl (h.nr k) E λi a _ op c b f _=>(by rw[r op c]at f;cases f),seen_app h.seen hl,λi a s D=>?_,λq p b f l A=>(h.pw q p b f l A).app λop c x o _ _=>(by rw[r op c]at o;cases o),
  λq p b f J l A=>(h.pr q p b f J l A).app λop c x o _=>(by rw[r op c]at o;cases o),λi a s B=>?_,dz h.ov λop c=>.inr (.inr (r op c))⟩
 .obtain⟨v,d⟩:=m s
  rcases h.kn i a d D with x|x|⟨q,I,G,F⟩
  .exact .inl (x.app u)
  .exact .inr (.inl x)
  refine .inr (.inr ⟨q,I,G,?_⟩);simpa[Zal,YS v]using F
 obtain⟨v,d⟩:=m s;exact⟨λx q p=>((h.wq i a d B).1 x q p).app u,λx=>((h.wq i a d B).2 x).app u⟩
variable {x y:MemOp}
def TI.fork (h:TI K Wg Shun H j n t)(D:x.g=0/\x.act=.go (K+j))(C:y.g=K+j/\y.act=.start)(X:Deaf t 0=0)(U:Deaf t (K+j)=0):
  TI K Wg Shun ((H.set (j+1) (H.S 0) (H.S 0)).set 0 (H.S 0) (H.S 0)) (j+1) n (t++ #[x,y]):=by
 have P:∀k∈#[x,y],k=x\/k=y:=by intro k c;simpa using c
 have B:∀k∈#[x,y],k.act.touch?=none:=by
  intro k c;rcases P k c with rfl|rfl
  .rw[D.2];rfl
  rw[C.2];rfl
 have m:∀ {i:Nat} {a:Touch},ZaR (t++ #[x,y]) i=some a->i<t.size/\ZaR t i=some a:=by
  intro i a o;obtain⟨z,S,s⟩:=ZbE o;rcases Yy S with⟨E,I⟩|⟨_,G⟩
  .exact⟨E,by rw[Zcv I];exact s⟩
  rw[B z G]at s;cases s
 have Q:∀ {i:Nat},Knows t 0 i->Knows (t++ #[x,y]) (K+j) i:=λh=>fork_knows D C X U h;have T:∀q,q<=j+1->∀b,((H.set (j+1) (H.S 0) (H.S 0)).set 0 (H.S 0) (H.S 0)).S q b->∀l,blk l=some b->PermW (t++ #[x,y]) (ix K q) l:=by
  intro q O b d l A i a o e F;obtain⟨_,f⟩:=m o;by_cases v:q=0
  .subst v
   rw[(A6 0 _ _).1]at d;exact(h.pw 0 (Zp _) b d l A i a f e F).app _
  rw[(BB v _ _).1]at d;by_cases r:q=j+1
  .subst r
   rw[(A6 _ _ _).1]at d;exact Q (h.pw 0 (Zp _) b d l A i a f e F)
  rw[(BB r _ _).1]at d;exact(h.pw q o! b d l A i a f e F).app _
 refine⟨λw=>?_,seen_app h.seen (λk c=>?_),λi a o J=>?_,T,λq O b d u l A=>?_,λi a o N=>?_,λi g R Y V=>?_⟩
 .have e:t++ #[x,y]=(t++ #[x])++ #[y]:=by apply Array.ext';simp
  rw[e];refine Zcl (g:=K+j) (Zcl (g:=0) (h.nr w) (λk c=>by simp at c;rw[c];exact D.1) (λi a _ k c b d _=>(by rw[B k (by simp at c⊢;exact .inl c)]at d;cases d)))
   (λk c=>by simp at c;rw[c];exact C.1) (λi a _ k c b d _=>(by rw[B k (by simp at c⊢;exact .inr c)]at d;cases d))
 .rcases P k c with rfl|rfl
  .rw[D.2];trivial
  rw[C.2];trivial
 .obtain⟨E,f⟩:=m o
  rcases h.kn i a f J with z|z|⟨q,M,W,L⟩
  .exact .inl (z.app _)
  .exact .inr (.inl z)
  refine .inr (.inr ⟨q,M,o!,?_⟩);simpa[Zal,YS E]using L
 .by_cases v:q=0
  .subst v
   rw[(A6 0 _ _).1]at d;rw[(A6 0 _ _).2]at u;exact absurd d u
  rw[(BB v _ _).1]at d;rw[(BB v _ _).2]at u;by_cases r:q=j+1
  .subst r
   rw[(A6 _ _ _).1]at d;rw[(A6 _ _ _).2]at u;exact absurd d u
  rw[(BB r _ _).1]at d;rw[(BB r _ _).2]at u;intro i a o e;exact(h.pr q o! b d u l A i a (m o).2 e).app _
 .obtain⟨E,f⟩:=m o
  refine⟨λz q O=>?_,λz=>((h.wq i a f N).2 z).app _⟩;by_cases r:q=j+1
  .subst r
   exact Q ((h.wq i a f N).1 z 0 (Zp _))
  exact((h.wq i a f N).1 z q o!).app _
 rcases dz h.ov (λk c=>.inr (.inr (B k c))) i g R Y V with z|⟨p,M,W,L⟩
 .exact .inl z
 exact .inr ⟨p,M,o!,L⟩
def TI.sY (h:Past Shun n t)(r:∀b,H.S 0 b->b<n/\∀l,blk l=some b->¬Shun l)(j:∀l,Mw Wg l->¬Shun l):TI K Wg Shun H 0 n t:=by
 have m:∀b,(∀l,blk l=some b->¬Shun l)->∀l,blk l=some b->Perm t 0 l:=by
  intro b d l c i a f e;rcases h.known i a f (by rw[e];exact Fj c) with x|⟨x,_⟩
  .exact x
  exact absurd (e▸x) (d l c)
 refine⟨h.clean,h.seen,λi a f s=>(h.known i a f s).imp id .inl,λp q b d l c=>?_,λp q b d _ l c=>?_,λi a f o=>?_,λi g w v u=>.inl (h.over i g w v u)⟩
 .obtain rfl:p=0:=by omega
  exact PermW.of (m b (r b d).2 l c)
 .obtain rfl:p=0:=by omega
  exact m b (r b d).2 l c
 have k:Knows t 0 i:=by
  rcases h.known i a f (Fj (KQ o)) with x|⟨x,_⟩
  .exact x
  exact absurd x (j _ o)
 refine⟨λ_ p q=>?_,λ_=>k⟩;obtain rfl:p=0:=o!
 exact k
end
end Go.Pair
namespace Go.Pair
open Go Go.Conc Go.FA
open Go.ConcN (PermW RelBy WgLive CTag phi pend isOpen isW3 isFin OpenSt AllQuit Mode WD Vc Ssum Fsum cnt sumTo upd)
open Go.ConcR (KK WgAt stA smA rd wr mk DC0 Bk)
section
variable(P:Zo)(ty:Zs)(Wg Ch:Nat)
section
variable(S:Nat->Prop)
def AtD4 (g:Zi)(w:Zb):Prop:=
 g.status=.running/\ZcH P g=true/\(WgAt ty Wg w 0 0->∃a,za P false g w=.go a (w.setCell (smA Wg) (.int .u32 1)) (Zax (smA Wg))/\∃q,ZcA P q 1 a)
def AtD3 (g:Zi)(w:Zb):Prop:=
 g.status=.running/\(WgAt ty Wg w 1 0->∃a,za P false g w=.go a (w.setCell (stA Wg) (.int .u64 0)) #[wr (stA Wg)]/\∃m,Goes P false (Ah ty Wg S) DC0 (AtD4 P ty Wg) m a (w.setCell (stA Wg) (.int .u64 0)))
def AtD2 (g:Zi)(w:Zb):Prop:=
 g.status=.running/\(WgAt ty Wg w 1 0->∃a,za P false g w=.go a w #[rd (stA Wg)]/\∃m,Goes P false (Ah ty Wg S) DC0 (AtD3 P ty Wg S) m a w)
def AtD1 (g:Zi)(w:Zb):Prop:=
 g.status=.running/\∀v a:Nat,a<=1->v<2147483647->WgAt ty Wg w ((v+1)*KK+a) 0->
  ∃b,za P false g w=.go b (w.setCell (stA Wg) (.int .u64 (v*KK+a))) #[rd (stA Wg),wr (stA Wg)]/\
   ((v=0/\a=1)->∃m,Goes P false (Ah ty Wg S) DC0 (AtD2 P ty Wg S) m b (w.setCell (stA Wg) (.int .u64 (v*KK+a))))/\(¬(v=0/\a=1)->∃q,ZcA P q 1 b)
def AtK1 (g:Zi)(w:Zb):Prop:=
 g.status=.running/\∃a,za P false g w=.go a w #[mk .disable]/\∃m,Goes P false (Ah ty Wg S) DC0 (AtD1 P ty Wg S) m a w
def AtR0 (g:Zi)(w:Zb):Prop:=
 g.status=.running/\∃a,za P false g w=.go a w #[mk (.releaseMerge (stA Wg))]/\∃m,Goes P false (Ah ty Wg S) DC0 (AtK1 P ty Wg S) m a w
end
abbrev Gk:=(Nat->Prop)->Zf->Zb->Prop
def AtSend (Pay:Gk):Cd:=λS g w=>
 g.status=.running/\∃a v z,za P false g w=.comm a #[scase Ch v z] true .send w #[]/\Pay S v w/\∃m,Goes P false (Ah ty Wg S) DC0 (AtR0 P ty Wg S) m (YU a Ze) w
section
variable(Anch AO:Cd)(S:Nat->Prop)
def AtAcq (g:Zi)(w:Zb):Prop:=
 g.status=.running/\∃a,za P true g w=.go a w #[mk (.acquire (stA Wg))]/\∃m,Goes P true (Ah ty Wg S) DC0 (Anch S) m a w
def AtKe (g:Zi)(w:Zb):Prop:=
 g.status=.running/\∃a,za P true g w=.go a w #[mk .enable]/\∃m,Goes P true (Ah ty Wg S) DC0 (AtAcq P ty Wg Anch S) m a w
def AtW4 (g:Zi)(w:Zb):Prop:=
 g.status=.running/\(WgAt ty Wg w 0 0->∃a,za P true g w=.go a w #[rd (stA Wg)]/\∃m,Goes P true (Ah ty Wg S) DC0 (AtKe P ty Wg Anch S) m a w)
def AtW3 (g:Zi)(w:Zb):Prop:=
 g.status=.running/\g.offers=none/\
  ((∃b,WgAt ty Wg w b 0)->za P true g w=.go {g with status:=.blocked} w #[])/\
  (WgAt ty Wg w 0 1->∃a,za P true g w=.go a (w.setCell (smA Wg) (.int .u32 0)) (Zax (smA Wg))/\∃m,Goes P true (Ah ty Wg S) DC0 (AtW4 P ty Wg Anch S) m a (w.setCell (smA Wg) (.int .u32 0)))
def aeK (g:Zi)(w:Zb):Prop:=
 g.status=.running/\∃a,za P true g w=.go a w #[mk (.write (smA Wg))]/\∃m,Goes P true (Ah ty Wg S) DC0 (AtW3 P ty Wg Anch S) m a w
def AtW2 (b:Nat)(g:Zi)(w:Zb):Prop:=
 g.status=.running/\∀v:Nat,v<2147483648->WgAt ty Wg w (v*KK) 0->
  (v=b->∃a,za P true g w=.go a (w.setCell (stA Wg) (.int .u64 (v*KK+1))) #[rd (stA Wg),wr (stA Wg)]/\∃m,Goes P true (Ah ty Wg S) DC0 (aeK P ty Wg Anch S) m a (w.setCell (stA Wg) (.int .u64 (v*KK+1))))/\
  (v≠b->∃a,za P true g w=.go a w #[rd (stA Wg)]/\∃m,Goes P true (Ah ty Wg S) DC0 (AO S) m a w)
def AtW1 (g:Zi)(w:Zb):Prop:=
 g.status=.running/\∀v:Nat,v<2147483648->WgAt ty Wg w (v*KK) 0->∃a,za P true g w=.go a w #[rd (stA Wg)]/\
  (v=0->∃m,Goes P true (Ah ty Wg S) DC0 (AtKe P ty Wg Anch S) m a w)/\(v≠0->∃m,Goes P true (Ah ty Wg S) DC0 (AtW2 P ty Wg Anch AO S v) m a w)
end
def AtKd (AO:Cd):Cd:=λS g w=>
 g.status=.running/\∃a,za P true g w=.go a w #[mk .disable]/\∃m,Goes P true (Ah ty Wg S) DC0 (AO S) m a w
section
variable(Pay:Gk)(Next:Cd)(S:Nat->Prop)
def AtGoS (g:Zi)(w:Zb):Prop:=
 g.status=.running/\∃b a,za P true g w=.spawn b a w #[]/\Be P false ty Wg S (AtSend P ty Wg Ch Pay) S a w/\Next S b w
def AtKeS (g:Zi)(w:Zb):Prop:=
 g.status=.running/\∃a,za P true g w=.go a w #[mk .enable]/\∃m,Goes P true (Ah ty Wg S) DC0 (AtGoS P ty Wg Ch Pay Next S) m a w
def aeL (g:Zi)(w:Zb):Prop:=
 g.status=.running/\∃a,za P true g w=.go a w #[mk (.read (smA Wg))]/\∃m,Goes P true (Ah ty Wg S) DC0 (AtKeS P ty Wg Ch Pay Next S) m a w
def AtA1 (g:Zi)(w:Zb):Prop:=
 g.status=.running/\∀v:Nat,v<2147483647->WgAt ty Wg w (v*KK) 0->
  ∃a,za P true g w=.go a (w.setCell (stA Wg) (.int .u64 ((v+1)*KK))) #[rd (stA Wg),wr (stA Wg)]/\
   (v=0->∃m,Goes P true (Ah ty Wg S) DC0 (aeL P ty Wg Ch Pay Next S) m a (w.setCell (stA Wg) (.int .u64 ((v+1)*KK))))/\(v≠0->∃m,Goes P true (Ah ty Wg S) DC0 (AtKeS P ty Wg Ch Pay Next S) m a (w.setCell (stA Wg) (.int .u64 ((v+1)*KK))))
end
def AtKdS (Pay:Gk)(Next:Cd):Cd:=λS g w=>
 g.status=.running/\∃a,za P true g w=.go a w #[mk .disable]/\∃m,Goes P true (Ah ty Wg S) DC0 (AtA1 P ty Wg Ch Pay Next S) m a w
def wj (Pay:Nat->Gk)(n:Nat)(AO:Cd):Nat->Cd
 |0=>λS g w=>Be P true ty Wg S (AtKd P ty Wg AO) S g w
 |r+1=>λS g w=>Be P true ty Wg S (AtKdS P ty Wg Ch (Pay (n - (r+1))) (wj Pay n AO r)) S g w
end
section
variable(P:Zo)(ty:Zs)(Wg Ch:Nat)
inductive WSit (Pay:Gk)(S L:Nat->Prop):Nat->Nat->Nat->Nat->Fuel P ty Wg->Zi->Zb->Prop
 |wk {g:Zi} {w x:Zb} (h:Be P false ty Wg L (AtSend P ty Wg Ch Pay) S g x) (hr:Ah ty Wg S x w):WSit Pay S L 7 1 0 0 h.fuel g w
 |r0 {X:Fuel P ty Wg} {m:Nat} {g:Zi} {w:Zb}:Goes P false (Ah ty Wg S) DC0 (AtR0 P ty Wg S) m g w->WSit Pay S L 7 0 m 0 X g w
 |k1 {X:Fuel P ty Wg} {m:Nat} {g:Zi} {w:Zb}:Goes P false (Ah ty Wg S) DC0 (AtK1 P ty Wg S) m g w->WSit Pay S L 6 0 m 0 X g w
 |d1 {X:Fuel P ty Wg} {m:Nat} {g:Zi} {w:Zb}:Goes P false (Ah ty Wg S) DC0 (AtD1 P ty Wg S) m g w->WSit Pay S L 5 0 m 1 X g w
 |d2 {X:Fuel P ty Wg} {m:Nat} {g:Zi} {w:Zb}:Goes P false (Ah ty Wg S) DC0 (AtD2 P ty Wg S) m g w->WSit Pay S L 4 0 m 1 X g w
 |d3 {X:Fuel P ty Wg} {m:Nat} {g:Zi} {w:Zb}:Goes P false (Ah ty Wg S) DC0 (AtD3 P ty Wg S) m g w->WSit Pay S L 3 0 m 1 X g w
 |d4 {X:Fuel P ty Wg} {m:Nat} {g:Zi} {w:Zb}:Goes P false (Ah ty Wg S) DC0 (AtD4 P ty Wg) m g w->WSit Pay S L 2 0 m 1 X g w
 |quit {X:Fuel P ty Wg} {q d:Nat} {g:Zi} {w:Zb}:ZcA P q d g->WSit Pay S L 1 0 q d X g w
section
variable(Pay:Nat->Gk)(Anch AO:Cd)(S L:Nat->Prop)
inductive CSit:CTag->Nat->Nat->Nat->Fuel P ty Wg->Nat->Zi->Zb->Prop
 |skd {r:Nat} {g:Zi} {w x:Zb} (hr:r<2) (h:Be P true ty Wg L (AtKdS P ty Wg Ch (Pay (2 - (r+1))) (wj P ty Wg Ch Pay 2 AO r)) S g x) (hw:Ah ty Wg S x w):CSit (.sp r 5) 1 (2 - (r+1)) 0 h.fuel 0 g w
 |sa1 {X:Fuel P ty Wg} {r m:Nat} {g:Zi} {w:Zb}:r<2->Goes P true (Ah ty Wg S) DC0 (AtA1 P ty Wg Ch (Pay (2 - (r+1))) (wj P ty Wg Ch Pay 2 AO r) S) m g w->CSit (.sp r 4) 1 (2 - (r+1)) m X 1 g w
 |ssr {X:Fuel P ty Wg} {r m:Nat} {g:Zi} {w:Zb}:r<2->Goes P true (Ah ty Wg S) DC0 (aeL P ty Wg Ch (Pay (2 - (r+1))) (wj P ty Wg Ch Pay 2 AO r) S) m g w->CSit (.sp r 3) 1 (2 - (r+1)) m X 1 g w
 |ske {X:Fuel P ty Wg} {r m:Nat} {g:Zi} {w:Zb}:r<2->Goes P true (Ah ty Wg S) DC0 (AtKeS P ty Wg Ch (Pay (2 - (r+1))) (wj P ty Wg Ch Pay 2 AO r) S) m g w->CSit (.sp r 3) 0 (2 - (r+1)) m X 1 g w
 |sgo {X:Fuel P ty Wg} {r m:Nat} {g:Zi} {w:Zb}:r<2->Goes P true (Ah ty Wg S) DC0 (AtGoS P ty Wg Ch (Pay (2 - (r+1))) (wj P ty Wg Ch Pay 2 AO r) S) m g w->CSit (.sp r 2) 0 (2 - (r+1)) m X 0 g w
 |kd {g:Zi} {w x:Zb} (h:Be P true ty Wg L (AtKd P ty Wg AO) S g x) (hw:Ah ty Wg S x w):CSit .kd 0 2 0 h.fuel 0 g w
 |anch {X:Fuel P ty Wg} {m:Nat} {g:Zi} {w:Zb}:Goes P true (Ah ty Wg S) DC0 (AO S) m g w->CSit .anch 0 2 m X 1 g w
 |w1 {X:Fuel P ty Wg} {m:Nat} {g:Zi} {w:Zb}:Goes P true (Ah ty Wg S) DC0 (AtW1 P ty Wg Anch AO S) m g w->CSit .w1 0 2 m X 1 g w
 |w2 {X:Fuel P ty Wg} {vs m:Nat} {g:Zi} {w:Zb}:Goes P true (Ah ty Wg S) DC0 (AtW2 P ty Wg Anch AO S vs) m g w->CSit (.w2 vs) 0 2 m X 1 g w
 |sw {X:Fuel P ty Wg} {m:Nat} {g:Zi} {w:Zb}:Goes P true (Ah ty Wg S) DC0 (aeK P ty Wg Anch S) m g w->CSit .w3 1 2 m X 1 g w
 |w3 {X:Fuel P ty Wg} {m:Nat} {g:Zi} {w:Zb}:Goes P true (Ah ty Wg S) DC0 (AtW3 P ty Wg Anch S) m g w->CSit .w3 0 2 (m+1) X 1 g w
 |blk {X:Fuel P ty Wg} {g:Zi} {w:Zb}:(∀w₁,Ah ty Wg S w w₁->AtW3 P ty Wg Anch S g w₁)->CSit .blk 0 2 0 X 1 {g with status:=.blocked} w
 |w4 {X:Fuel P ty Wg} {m:Nat} {g:Zi} {w:Zb}:Goes P true (Ah ty Wg S) DC0 (AtW4 P ty Wg Anch S) m g w->CSit .w4 0 2 m X 1 g w
 |ke {X:Fuel P ty Wg} {m:Nat} {g:Zi} {w:Zb}:Goes P true (Ah ty Wg S) DC0 (AtKe P ty Wg Anch S) m g w->CSit .ke 0 2 m X 1 g w
 |acq {X:Fuel P ty Wg} {m:Nat} {g:Zi} {w:Zb}:Goes P true (Ah ty Wg S) DC0 (AtAcq P ty Wg Anch S) m g w->CSit .acq 0 2 m X 0 g w
 |ret {X:Fuel P ty Wg} {m:Nat} {g:Zi} {w:Zb}:Goes P true (Ah ty Wg S) DC0 (Anch S) m g w->CSit .ret 0 2 m X 0 g w
end
end
section
variable {P:Zo}{ty:Zs}{Wg Ch:Nat}{OP:Gk}{Pay:Nat->Gk}{Anch AO:Cd}{S L:Nat->Prop}{s e m d:Nat}{X:Fuel P ty Wg}{g:Zi}{w w₁:Zb}
def Cs:∀a b c,Ah ty Wg S a b->Ah ty Wg S b c->Ah ty Wg S a c:=λ_ _ _ h k=>h.trans k
def WSit.rely (h:WSit P ty Wg Ch OP S L s e m d X g w)(a:Ah ty Wg S w w₁):WSit P ty Wg Ch OP S L s e m d X g w₁:=by
 cases h with
 |wk h k=>exact .wk h (k.trans a)
 |r0 h=>exact .r0 (Yb Cs h a)
 |k1 h=>exact .k1 (Yb Cs h a)
 |d1 h=>exact .d1 (Yb Cs h a)
 |d2 h=>exact .d2 (Yb Cs h a)
 |d3 h=>exact .d3 (Yb Cs h a)
 |d4 h=>exact .d4 (Yb Cs h a)
 |quit h=>exact .quit h
def Be.running {St:Cd}{a:Bool}{Lk:Nat->Prop}(h:Be P a ty Wg Lk St S g w)(b:∀S g w,St S g w->g.status=.running):g.status=.running:=by
 cases h with
 |stop h=>exact b _ _ _ (h w (Ah.refl w))
 |step h=>exact h
def WSit.status (h:WSit P ty Wg Ch OP S L s e m d X g w):g.status=.running\/(g.status=.finished/\s=1):=by
 cases h with
 |wk h _=>exact .inl (h.running λ_ _ _ x=>x.1)
 |r0 h=>exact .inl (zt (λ_ _ x=>x.1) w (Ah.refl w) h)
 |k1 h=>exact .inl (zt (λ_ _ x=>x.1) w (Ah.refl w) h)
 |d1 h=>exact .inl (zt (λ_ _ x=>x.1) w (Ah.refl w) h)
 |d2 h=>exact .inl (zt (λ_ _ x=>x.1) w (Ah.refl w) h)
 |d3 h=>exact .inl (zt (λ_ _ x=>x.1) w (Ah.refl w) h)
 |d4 h=>exact .inl (zt (λ_ _ x=>x.1) w (Ah.refl w) h)
 |quit h=>exact h.status.imp id λx=>⟨x,rfl⟩
def WSit.woken (h:WSit P ty Wg Ch OP S L s e m d X g w)(a a':Zi)(w':Zb):woken P a a' w' g=g:=by
 unfold Go.Conc.woken;split
 .exact again_running _ (h.status.imp id And.left)
 rfl
def CSit.rely {tag:CTag}{j:Nat}(h:CSit P ty Wg Ch Pay Anch AO S L tag s j m X d g w)(a:Ah ty Wg S w w₁):CSit P ty Wg Ch Pay Anch AO S L tag s j m X d g w₁:=by
 cases h with
 |skd b h k=>exact .skd b h (k.trans a)
 |sa1 b h=>exact .sa1 b (Yb Cs h a)
 |ssr b h=>exact .ssr b (Yb Cs h a)
 |ske b h=>exact .ske b (Yb Cs h a)
 |sgo b h=>exact .sgo b (Yb Cs h a)
 |kd h k=>exact .kd h (k.trans a)
 |anch h=>exact .anch (Yb Cs h a)
 |w1 h=>exact .w1 (Yb Cs h a)
 |w2 h=>exact .w2 (Yb Cs h a)
 |sw h=>exact .sw (Yb Cs h a)
 |w3 h=>exact .w3 (Yb Cs h a)
 |blk h=>exact .blk (λc e=>h c (a.trans e))
 |w4 h=>exact .w4 (Yb Cs h a)
 |ke h=>exact .ke (Yb Cs h a)
 |acq h=>exact .acq (Yb Cs h a)
 |ret h=>exact .ret (Yb Cs h a)
def CSit.status {tag:CTag}{j:Nat}(b:∀S g w,AO S g w->g.status=.running)(a:∀S g w,Anch S g w->g.status=.running)(h:CSit P ty Wg Ch Pay Anch AO S L tag s j m X d g w):(g.status=.running/\tag≠ .blk)\/(g.status=.blocked/\tag=.blk):=by
 have r:=Ah.refl (ty:=ty) (Wg:=Wg) (S:=S) w;cases h with
 |skd _ h _=>exact .inl ⟨h.running λ_ _ _ x=>x.1,i!⟩
 |sa1 _ h=>exact .inl ⟨zt (λ_ _ x=>x.1) w r h,i!⟩
 |ssr _ h=>exact .inl ⟨zt (λ_ _ x=>x.1) w r h,i!⟩
 |ske _ h=>exact .inl ⟨zt (λ_ _ x=>x.1) w r h,i!⟩
 |sgo _ h=>exact .inl ⟨zt (λ_ _ x=>x.1) w r h,i!⟩
 |kd h _=>exact .inl ⟨h.running λ_ _ _ x=>x.1,i!⟩
 |anch h=>exact .inl ⟨zt (b S) w r h,i!⟩
 |w1 h=>exact .inl ⟨zt (λ_ _ x=>x.1) w r h,i!⟩
 |w2 h=>exact .inl ⟨zt (λ_ _ x=>x.1) w r h,i!⟩
 |sw h=>exact .inl ⟨zt (λ_ _ x=>x.1) w r h,i!⟩
 |w3 h=>exact .inl ⟨zt (λ_ _ x=>x.1) w r h,i!⟩
 |blk h=>exact .inr ⟨rfl,rfl⟩
 |w4 h=>exact .inl ⟨zt (λ_ _ x=>x.1) w r h,i!⟩
 |ke h=>exact .inl ⟨zt (λ_ _ x=>x.1) w r h,i!⟩
 |acq h=>exact .inl ⟨zt (λ_ _ x=>x.1) w r h,i!⟩
 |ret h=>exact .inl ⟨zt (a S) w r h,i!⟩
variable {p b i j k s' e' m' dd' KP f' n:Nat}
def CSit.wokenBy {tag:CTag}(q:∀S g w,AO S g w->g.status=.running)(n:∀S g w,Anch S g w->g.status=.running)(h:CSit P ty Wg Ch Pay Anch AO S L tag s j m X d g w)(k:Ah ty Wg S w w₁)(a a':Zi):
  ∃c m',CSit P ty Wg Ch Pay Anch AO S L c s j m' X d (woken P a a' w₁ g) w₁/\(c=tag\/(tag=.blk/\c=.w3))/\(ZcH P a=true->a'.status=.running->c≠ .blk):=by
 have b:=h.rely k;unfold Go.Conc.woken;split
 .rcases b.status q n with⟨i,r⟩|⟨_,rfl⟩
  .exact⟨tag,m,by rw[again_running _ (.inl i)];exact b,.inl rfl,λ_ _=>r⟩
  cases b with
  |blk e=>
   rename_i t;have f:=e w₁ (Ah.refl w₁);exact⟨.w3,0+1,by rw[Go.ConcR.again_blocked f.1 f.2.1];exact .w3 (ZT e),.inr ⟨rfl,rfl⟩,λ_ _=>i!⟩
 rename_i l;exact⟨tag,m,b,.inl rfl,λp o=>absurd (by simp[p,o]) l⟩
end
end Go.Pair
namespace Go.Pair
open Go Go.Conc Go.FA
open Go.ConcN (PermW RelBy WgLive CTag phi pend isOpen isW3 isFin OpenSt AllQuit Mode WD Vc Ssum Fsum cnt sumTo upd upd_same upd_ne get_map_set get_map_set_same Deaf_still)
open Go.ConcR (KK WgAt stA smA rd wr mk DC0 Bk g_of_ofEvents)
structure Ak (ty:Zs)(Wg Ch:Nat)(S L:Nat->Prop)(w w':Zb):Prop where
 size:w<=w'.heap.size
 still:∀b,b<w.heap.size->¬S b\/L b->b≠Wg->b≠Ch->w'.heap[b]?=w.heap[b]?
 os:w'.os=w.os
 tape:w'.tape=w.tape
 output:w'.output=w.output
 live:WgLive ty Wg w->WgLive ty Wg w'
section
variable {ty:Zs}{Wg Ch:Nat}{S L:Nat->Prop}{w w':Zb}{es:Array Z9}
def Ak.gy (h:LN S L w w' es)(g:¬S Wg)(i:Wg<w):Ak ty Wg Ch S L w w':=
 ⟨h.size,λb f d _ _=>h.still b f d,h.os,h.tape,h.output,λ⟨a,c,e⟩=>⟨a,c,(h.still Wg i (.inl g)).trans e⟩⟩
end
def n9 (Ch:Nat)(j:Nat)(E:Nat->Nat)(vals:Nat->Zf)(w:Zb):Prop:=
 ∃(a:List Nat) (b:Bool),a.Nodup/\(∀i,i∈a↔(i<j/\E i=0))/\w.heap[Ch]?=some (.chan 2 (a.map vals).toArray false a.length 0 b)
abbrev I_ (Wg T₀:Nat)(t:YZ)(g r:Nat):Prop:=RelBy (stA Wg) t g r/\T₀<=r/\∀k a,ZaR t k=some a->a.loc.isMemory=true->t.g? k=some g->k<=r\/(Mw Wg a.loc/\a.kind=.atomic)
section
variable(P:Zo)(ty:Zs)(Wg Ch:Nat)(Pay:Nat->Gk)(K T₀:Nat)(Shun:Loc->Prop)(w₀:Zb)(S₀ L₀:Nat->Prop)
structure Com (j:Nat)(gs:Array Zi)(w:Zb)(t:YZ)(D:Nat->WD)(E:Nat->Nat)(X:Nat->Fuel P ty Wg)(H:JJ)(q:Nat->Nat)(d0:Nat)(vals:Nat->Zf):Prop where
 size:gs.size=K+j
 pos:1<=K
 wk:∀i,i<j->∃g,gs[K+i]?=some g/\WSit P ty Wg Ch (Pay i) (H.S (i+1)) (H.L (i+1)) (D i).stage (E i) (D i).fuel (D i).deaf (X i) g w
 old:∀i g,0<i->i<K->gs[i]?=some g->ZcA P (q i) (Deaf t i) g
 ti:TI K Wg Shun H j w t
 OQ:Apt Wg H j w
 norel:∀k,T₀<=k->t.act? k≠some (.mark (.release (stA Wg)))
 told:T₀<=t.size
 deaf0:Deaf t 0=d0
 deafW:∀i,i<j->Deaf t (K+i)=(D i).deaf
 above:∀i,K+j<=i->Deaf t i=0
 rel:∀i,i<j->(D i).stage<=6->∃r,I_ Wg T₀ t (K+i) r
 IK:Wg<w
 TR:Ch<w
 cw:Ch≠Wg
 OT:∀p,p<=j->¬H.S p Ch
 ch:n9 Ch j E vals w
 pay:∀i,i<j->E i=0->Pay i (H.S (i+1)) (vals i) w
 dn:∀b,b<w₀.heap.size->b≠Wg->b≠Ch->(¬S₀ b\/L₀ b)->w.heap[b]?=w₀.heap[b]?
 grown:w₀<=w.heap.size
 os:w.os=w₀.os
 tape:w.tape=w₀.tape
 output:w.output=w₀.output
 ER:∀p,p<=j->∀b,H.S p b->S₀ b\/w₀<=b
 jD:∀p,p<=j->∀b,L₀ b->H.S p b->S₀ b->H.L p b
 l0:∀b,L₀ b->b<w₀.heap.size
 e01:∀i,i<j->(D i).stage<=6->E i=0
end
section
variable {P:Zo}{ty:Zs}{Wg Ch:Nat}{Pay:Nat->Gk}{K T₀:Nat}{Shun:Loc->Prop}{w₀:Zb}{S₀ L₀:Nat->Prop}
 {j:Nat} {gs:Array Zi} {w w':Zb} {t u:YZ} {D:Nat->WD} {E:Nat->Nat} {X:Nat->Fuel P ty Wg} {H:JJ} {q:Nat->Nat} {d0:Nat} {vals:Nat->Zf}
def Ls {T₀:Nat}{a:Addr}{t u:YZ}(h:∀k,T₀<=k->t.act? k≠some (.mark (.release a)))(e:∀op∈u,op.act≠ .mark (.release a)):∀k,T₀<=k->(t++u).act? k≠some (.mark (.release a)):=by
 intro i g j;obtain⟨op,f,b⟩:=zc.1 j;rcases Yy f with⟨_,d⟩|⟨_,c⟩
 .exact h i g (by rw[act?_of d,b])
 exact e op c b
def Nu {T₀:Nat}{t u:YZ}(h:T₀<=t.size):T₀<=(t++u).size:=by
 rw[Array.size_append];omega
def I' (ty:Zs)(Wg:Nat)(Pay:Nat->Gk):Prop:=∀i S v w w',Pay i S v w->Ah ty Wg S w w'->Pay i S v w'
variable {p b i k s' e' m' dd' d KP f' m n:Nat}
def Com.VT (h:Com P ty Wg Ch Pay K T₀ Shun w₀ S₀ L₀ j gs w t D E X H q d0 vals)(hp:p<=j)(T:Ak ty Wg Ch (H.S p) (H.L p) w w'){a:Nat}(c:a<=j)(g:a≠p):Ah ty Wg (H.S a) w w':=by
 refine⟨⟨λb d=>?_,T.size,T.os⟩,T.live⟩;refine T.still b (h.OQ.low a c b d) ?_ (λe=>h.OQ.wg a c (e▸d)) (λe=>h.OT a c (e▸d));by_cases f:H.S p b
 .exact .inr (h.OQ.two p a hp c (Za0 g) b f d)
 exact .inl f
def Com.VU (h:Com P ty Wg Ch Pay K T₀ Shun w₀ S₀ L₀ j gs w t D E X H q d0 vals)(m:p<=j)(l:w<=w'.heap.size):Apt Wg (H.set p (Ib (H.S p) w w') (H.L p)) j w':=by
 refine⟨λa c f i k b d g=>?_,λa f d=>?_,λa f b d=>?_⟩
 .by_cases e:a=p
  .subst e
   rw[(A6 _ _ _).1]at d;rw[(BB (Za0 k) _ _).1]at g;rw[(A6 _ _ _).2];rcases d with x|⟨x,_⟩
   .exact h.OQ.two a c f i k b x g
   have:=h.OQ.low c i b g;omega
  rw[(BB e _ _).1]at d;rw[(BB e _ _).2];by_cases e':c=p
  .subst e'
   rw[(A6 _ _ _).1]at g;rcases g with x|⟨x,_⟩
   .exact h.OQ.two a c f i k b d x
   have:=h.OQ.low a f b d;omega
  rw[(BB e' _ _).1]at g;exact h.OQ.two a c f i k b d g
 .by_cases e:a=p
  .subst e
   rw[(A6 _ _ _).1]at d;rcases d with x|⟨x,_⟩
   .exact h.OQ.wg a f x
   have:=h.IK;omega
  rw[(BB e _ _).1]at d;exact h.OQ.wg a f d
 by_cases e:a=p
 .subst e
  rw[(A6 _ _ _).1]at d;rcases d with x|⟨_,x⟩
  .exact Zl (h.OQ.low a f b x) l
  exact x
 rw[(BB e _ _).1]at d;exact Zl (h.OQ.low a f b d) l
def Com.n_ (h:Com P ty Wg Ch Pay K T₀ Shun w₀ S₀ L₀ j gs w t D E X H q d0 vals)(hp:p<=j)(c:w<=w'.heap.size)(f:∀op∈u,op.g=ix K p)(hl:∀op∈u,op.act.low w')
 (e:∀op∈u,∀x,op.act.touch?=some x->(Mw Wg x.loc/\x.kind≠ .plain/\(x.kind=.said->p=0))\/(∃b,blk x.loc=some b/\Ib (H.S p) w w' b/\(x.write=true->¬H.L p b))\/x.loc.isMemory=false):
  TI K Wg Shun (H.set p (Ib (H.S p) w w') (H.L p)) j w' (t++u):=by
 refine TI.app (h.ti.grow c (λb g=>g.imp id And.left) (λb x _=>x)) (h.VU hp c) hp f hl λop a x d=>?_;rcases e op a x d with y|⟨b,l,k,i⟩|y
 .exact .inl y
 .exact .inr (.inl ⟨b,l,by rw[(A6 _ _ _).1];exact k,by rw[(A6 _ _ _).2];exact i⟩)
 exact .inr (.inr y)
def Com.at (h:Com P ty Wg Ch Pay K T₀ Shun w₀ S₀ L₀ j gs w t D E X H q d0 vals)(f:I' ty Wg Pay)(d:Nat):Com P ty Wg Ch Pay K T₀ Shun w₀ S₀ L₀ j gs (w.at d) t D E X H q d0 vals:=
 ⟨h.size,h.pos,λi a=>let⟨g,c,b⟩:=h.wk i a;⟨g,c,b.rely (Ah.at w d)⟩,h.old,h.ti,h.OQ,h.norel,h.told,h.deaf0,h.deafW,h.above,h.rel,h.IK,h.TR,h.cw,h.OT,h.ch,
  λi a e=>f i _ _ _ _ (h.pay i a e) (Ah.at w d),h.dn,h.grown,h.os,h.tape,h.output,h.ER,h.jD,h.l0,h.e01⟩
def Com.R_ (h:Com P ty Wg Ch Pay K T₀ Shun w₀ S₀ L₀ j gs w t D E X H q d0 vals)(hp:p<=j)(i:w<=w'.heap.size):
  (∀a,a<=j->¬(H.set p (Ib (H.S p) w w') (H.L p)).S a Ch)/\(∀a,a<=j->∀b,(H.set p (Ib (H.S p) w w') (H.L p)).S a b->S₀ b\/w₀<=b)/\
  (∀a,a<=j->∀b,L₀ b->(H.set p (Ib (H.S p) w w') (H.L p)).S a b->S₀ b->(H.set p (Ib (H.S p) w w') (H.L p)).L a b):=by
 refine⟨λa d c=>?_,λa d b c=>?_,λa d b f c g=>?_⟩
 .by_cases e:a=p
  .subst e
   rw[(A6 _ _ _).1]at c;rcases c with x|⟨x,_⟩
   .exact h.OT a d x
   have:=h.TR;omega
  rw[(BB e _ _).1]at c;exact h.OT a d c
 .by_cases e:a=p
  .subst e
   rw[(A6 _ _ _).1]at c;rcases c with x|⟨x,_⟩
   .exact h.ER a d b x
   exact .inr (Zr h.grown x)
  rw[(BB e _ _).1]at c;exact h.ER a d b c
 by_cases e:a=p
 .subst e
  rw[(A6 _ _ _).1]at c;rw[(A6 _ _ _).2];rcases c with x|⟨x,y⟩
  .exact h.jD a d b f x g
  have:=h.l0 b f;have:=h.grown;omega
 rw[(BB e _ _).1]at c;rw[(BB e _ _).2];exact h.jD a d b f c g
structure KR (Wg K:Nat)(H:JJ)(p:Nat)(w w':Zb)(u:YZ):Prop where
 g:∀op∈u,op.g=ix K p
 low:∀op∈u,op.act.low w'
 ok:∀op∈u,∀x,op.act.touch?=some x->(Mw Wg x.loc/\x.kind≠ .plain/\(x.kind=.said->p=0))\/(∃b,blk x.loc=some b/\Ib (H.S p) w w' b/\(x.write=true->¬H.L p b))\/x.loc.isMemory=false
 norel:∀op∈u,op.act≠ .mark (.release (stA Wg))
variable {a:Touch}
def Nv (h:ZaR (t++u) k=some a){g:Nat}(f:∀op∈u,op.g≠g)(d:(t++u).g? k=some g):ZaR t k=some a/\t.g? k=some g:=by
 obtain⟨x,c,j⟩:=ZbE h;rcases Yy c with⟨i,e⟩|⟨_,b⟩
 .exact⟨by rw[Zcv e];exact j,by simpa[Zal,YS i]using d⟩
 have:x.g=g:=by simpa[Zal,c]using d
 exact absurd this (f x b)
variable {gs':Array Zi}
variable {g g' a':Zi}
def Com.stepW (h:Com P ty Wg Ch Pay K T₀ Shun w₀ S₀ L₀ j gs w t D E X H q d0 vals)(hP:I' ty Wg Pay)(hi:i<j){x':Fuel P ty Wg}{vals':Nat->Zf}(T:Ak ty Wg Ch (H.S (i+1)) (H.L (i+1)) w w')(U:KR Wg K H (i+1) w w' u)
 (DX:WSit P ty Wg Ch (Pay i) (Ib (H.S (i+1)) w w') (H.L (i+1)) s' e' m' dd' x' g' w')
 (J:Deaf (t++u) (K+i)=dd')
 (hrel:s'<=6->∃r,I_ Wg T₀ (t++u) (K+i) r)
 (S:gs'.size=gs.size) (O:gs'[K+i]?=some g') (o:∀k,0<k->k≠K+i->gs'[k]?=gs[k]?)
 (Q:n9 Ch j (upd E i e') vals' w') (V:∀a,a≠i->vals' a=vals a) (R:e'=0->Pay i (Ib (H.S (i+1)) w w') (vals' i) w') (Z:s'<=6->e'=0):
  Com P ty Wg Ch Pay K T₀ Shun w₀ S₀ L₀ j gs' w' (t++u) (upd D i ⟨s',m',dd'⟩) (upd E i e') (upd X i x') (H.set (i+1) (Ib (H.S (i+1)) w w') (H.L (i+1))) q d0 vals':=by
 have m:i+1<=j:=hi;have Fy:=h.pos;have D':=h.size;have s:∀c,c<j->c≠i->Ah ty Wg (H.S (c+1)) w w':=λc d e=>h.VT m T d o!;have l:∀B∈u,B.g=K+i:=U.g;have I:=h.R_ (w':=w') m T.size;refine⟨S.trans h.size,h.pos,λc d=>?_,λk x n hK g=>?_,h.n_ m T.size U.g U.low U.ok,h.VU m T.size,Ls h.norel U.norel,Nu h.told,by rw[Y0 t o! _ l,h.deaf0],λc d=>?_,λk n=>by rw[Y0 t o! _ l];exact h.above k n,
  λc d f=>?_,Zl h.IK T.size,Zl h.TR T.size,h.cw,I.1,Q,λc d p=>?_,λb L A v M=>?_,Zr h.grown T.size,T.os.trans h.os,T.tape.trans h.tape,T.output.trans h.output,I.2.1,I.2.2,h.l0,λc d f=>?_⟩
 .by_cases e:c=i
  .subst e
   refine⟨g',O,?_⟩;rw[(A6 _ _ _).1,(A6 _ _ _).2,upd_same,upd_same,upd_same];exact DX
  obtain⟨x,g,F⟩:=h.wk c d;refine⟨x,by rw[o _ o! o!];exact g,?_⟩;rw[(BB o! _ _).1,(BB o! _ _).2,upd_ne _ _ e,upd_ne _ _ e,upd_ne _ _ e];exact F.rely (s c d e)
 .rw[o k n o!]at g
  have W:=h.old k x n hK g;rw[Y0 t o! _ l];exact W
 .by_cases e:c=i
  .subst e;rw[upd_same];exact J
  rw[Y0 t o! _ l,h.deafW c d,upd_ne _ _ e]
 .by_cases e:c=i
  .subst e;rw[upd_same]at f;exact hrel f
  rw[upd_ne _ _ e]at f;obtain⟨r,s,C,n⟩:=h.rel c d f;refine⟨r,s.appOther l o!,C,λk a ha Y N=>?_⟩;obtain⟨A,v⟩:=Nv ha (λB G=>by rw[l B G];omega) N;exact n k a A Y v
 .by_cases e:c=i
  .subst e
   rw[upd_same]at p;rw[(A6 _ _ _).1];exact R p
  rw[upd_ne _ _ e]at p;rw[(BB o! _ _).1,V c e];exact hP _ _ _ _ _ (h.pay c d p) (s c d e)
 .rw[T.still b (Zl L h.grown) ?_ A v]
  .exact h.dn b L A v M
  by_cases g:H.S (i+1) b
  .rcases h.ER _ m b g with y|y
   .rcases M with z|z
    .exact absurd y z
    exact .inr (h.jD _ m b z g y)
   omega
  exact .inl g
 by_cases e:c=i
 .subst e;rw[upd_same]at f⊢;exact Z f
 rw[upd_ne _ _ e]at f⊢;exact h.e01 c d f
def n9.CN (h:n9 Ch j E vals w)(T:w'.heap[Ch]?=w.heap[Ch]?):n9 Ch j E vals w':=by
 obtain⟨a,b,e,d,c⟩:=h;exact⟨a,b,e,d,T.trans c⟩
def Com.step0 (h:Com P ty Wg Ch Pay K T₀ Shun w₀ S₀ L₀ j gs w t D E X H q d0 vals)(Q:I' ty Wg Pay)(L:gs'.size=gs.size)(l:∀k,0<k->gs'[k]?=gs[k]?)(T:Ak ty Wg Ch (H.S 0) (H.L 0) w w')(U:KR Wg K H 0 w w' u)(J:w'.heap[Ch]?=w.heap[Ch]?):
  Com P ty Wg Ch Pay K T₀ Shun w₀ S₀ L₀ j gs' w' (t++u) D E X (H.set 0 (Ib (H.S 0) w w') (H.L 0)) q (Deaf (t++u) 0) vals:=by
 have f:0<=j:=Zp _;have V:=h.pos;have m:∀c,c<j->Ah ty Wg (H.S (c+1)) w w':=λc d=>h.VT f T d o!;have i:∀p∈u,p.g=0:=U.g;have B:=h.R_ (w':=w') f T.size;refine⟨L.trans h.size,h.pos,λc d=>?_,λk x g R e=>?_,h.n_ f T.size U.g U.low U.ok,h.VU f T.size,Ls h.norel U.norel,Nu h.told,rfl,λc d=>by rw[Y0 t o! _ i];exact h.deafW c d,λk g=>by rw[Y0 t o! _ i];exact h.above k g,
  λc d S=>?_,Zl h.IK T.size,Zl h.TR T.size,h.cw,B.1,h.ch.CN J,λc d I=>?_,λb C o n F=>?_,Zr h.grown T.size,T.os.trans h.os,T.tape.trans h.tape,T.output.trans h.output,B.2.1,B.2.2,h.l0,h.e01⟩
 .obtain⟨x,e,v⟩:=h.wk c d
  refine⟨x,by rw[l _ o!];exact e,?_⟩;rw[(BB o! _ _).1,(BB o! _ _).2];exact v.rely (m c d)
 .rw[l k g]at e
  have M:=h.old k x g R e;rw[Y0 t o! _ i];exact M
 .obtain⟨r,m,s,g⟩:=h.rel c d S
  refine⟨r,m.appOther i o!,s,λk a O N G=>?_⟩;obtain⟨o,n⟩:=Nv O (λp A=>by rw[i p A];omega) G;exact g k a o N n
 .rw[(BB o! _ _).1]
  exact Q _ _ _ _ _ (h.pay c d I) (m c d)
 rw[T.still b (Zl C h.grown) ?_ o n]
 .exact h.dn b C o n F
 by_cases e:H.S 0 b
 .rcases h.ER _ f b e with y|y
  .rcases F with z|z
   .exact absurd y z
   exact .inr (h.jD _ f b z e y)
  omega
 exact .inl e
variable {es:Array Z9}
def Com.aeP (h:Com P ty Wg Ch Pay K T₀ Shun w₀ S₀ L₀ j gs w t D E X H q d0 vals){n':Nat}(O:0<k)(Q:k<K)(G:gs'.size=gs.size)(F:gs'[k]?=some g')(m:∀k',0<k'->k'≠k->gs'[k']?=gs[k']?){fn:ZaQ}{pos:String}(l:∀e∈es,e.mute=true)(y:ZcA P n' (zV (Deaf t k) es) g'):
  Com P ty Wg Ch Pay K T₀ Shun w₀ S₀ L₀ j gs' w (t++ZK k fn pos es) D E X H (upd q k n') d0 vals:=by
 have c:∀d∈ZK k fn pos es,d.g=k:=λd b=>by obtain⟨e,_,rfl⟩:=ZQ b;rfl
 have R:=h.pos;have S:=h.size;refine⟨G.trans h.size,h.pos,λi o=>?_,λk' x p z f=>?_,h.ti.mute (g:=k) c (λd b=>by obtain⟨e,n,rfl⟩:=ZQ b;exact low_mute (l e n) _) (λd b=>by obtain⟨e,n,rfl⟩:=ZQ b;exact touch_mute (l e n)),h.OQ,
  Ls h.norel (λd b f=>?_),Nu h.told,by rw[Y0 t o! _ c];exact h.deaf0,λi o=>by rw[Y0 t o! _ c];exact h.deafW i o,λk' p=>by rw[Y0 t o! _ c];exact h.above k' p,
  λi o M=>?_,h.IK,h.TR,h.cw,h.OT,h.ch,h.pay,h.dn,h.grown,h.os,h.tape,h.output,h.ER,h.jD,h.l0,h.e01⟩
 .obtain⟨x,f,v⟩:=h.wk i o
  exact⟨x,by rw[m _ o! o!];exact f,v⟩
 .by_cases e:k'=k
  .subst e
   rw[F]at f;cases f;rw[upd_same,Deaf_own];exact y
  rw[m k' p e]at f;have y:=h.old k' x p z f;rw[Y0 t o! _ c,upd_ne _ _ e];exact y
 .obtain⟨e,n,rfl⟩:=ZQ b
  have A:=l e n;obtain⟨s,wr,N⟩:=e;cases s<;>simp_all[Event.mute,ZR]
 obtain⟨r,I,u,C⟩:=h.rel i o M;refine⟨r,I.appOther c o!,u,λk a J l B=>?_⟩;obtain⟨A,L⟩:=Nv J (λd b=>by rw[c d b];omega) B;exact C k a A l L
def Com.Gl (h:Com P ty Wg Ch Pay K T₀ Shun w₀ S₀ L₀ j gs w t D E X H q d0 vals)(g g':Zi)(w':Zb)(p:Nat)(e:0<k)(f:k≠p):((gs.map (woken P g g' w')).setIfInBounds p g')[k]?=gs[k]? :=by
 rw[get_map_set _ _ _ _ (Za0 f)];cases a:gs[k]? with
 |none=>rfl
 |some x=>
  have l:=(Za.1 a).1;have i:=h.size;rw[Zdh]
  congr 1
  rcases Zar k K with d|d
  .exact woken_quitsD (h.old k x e d a)
  obtain⟨y,c,b⟩:=h.wk (k - K) o!;rw[show K+(k - K)=k by omega,a]at c;cases c;exact b.woken _ _ _
variable {x y:MemOp}
def Com.spawn (h:Com P ty Wg Ch Pay K T₀ Shun w₀ S₀ L₀ j gs w t D E X H q 0 vals){f:Zi}(M:x.g=0/\x.act=.go (K+j))(L:y.g=K+j/\y.act=.start)
 (hc:Be P false ty Wg (H.S 0) (AtSend P ty Wg Ch (Pay j)) (H.S 0) f w):
  Com P ty Wg Ch Pay K T₀ Shun w₀ S₀ L₀ (j+1) ((gs.setIfInBounds 0 a').push f) w (t++ #[x,y]) (upd D j ⟨7,0,0⟩) (upd E j 1) (upd X j hc.fuel) ((H.set (j+1) (H.S 0) (H.S 0)).set 0 (H.S 0) (H.S 0)) q 0 vals:=by
 have Y:∀n∈#[x,y],n=x\/n=y:=by intro n l;simpa using l
 have S:∀n∈#[x,y],n.act≠ .mark .disable/\n.act≠ .mark .enable:=by
  intro n l;rcases Y n l with rfl|rfl
  .rw[M.2];exact⟨i!,i!⟩
  rw[L.2];exact⟨i!,i!⟩
 have D':=h.size;have Fy:=h.pos;have u:∀p,p<=j+1->(p=0\/p=j+1)/\((H.set (j+1) (H.S 0) (H.S 0)).set 0 (H.S 0) (H.S 0)).S p=H.S 0/\((H.set (j+1) (H.S 0) (H.S 0)).set 0 (H.S 0) (H.S 0)).L p=H.S 0\/
   p≠0/\p<=j/\((H.set (j+1) (H.S 0) (H.S 0)).set 0 (H.S 0) (H.S 0)).S p=H.S p/\((H.set (j+1) (H.S 0) (H.S 0)).set 0 (H.S 0) (H.S 0)).L p=H.L p:=by
  intro p o;by_cases C:p=0
  .subst C
   exact .inl ⟨.inl rfl,(A6 _ _ _).1,(A6 _ _ _).2⟩
  by_cases e1:p=j+1
  .subst e1
   exact .inl ⟨.inr rfl,by rw[(BB C _ _).1,(A6 _ _ _).1],by rw[(BB C _ _).2,(A6 _ _ _).2]⟩
  exact .inr ⟨C,o!,by rw[(BB C _ _).1,(BB e1 _ _).1],by rw[(BB C _ _).2,(BB e1 _ _).2]⟩
 have G:∀ {k:Nat},0<k->k<K+j->((gs.setIfInBounds 0 a').push f)[k]?=gs[k]? :=by
  intro k B F;rw[Zd3 (by simp[D'];omega), <-Zx,Zk o!]
 refine⟨by simp[D'];omega,Fy,λi N=>?_,λk g B hK O=>?_,h.ti.fork M L h.deaf0 (h.above _ (Zj _)),⟨λp p' o lR BL b d R=>?_,λp o d=>?_,λp o b d=>?_⟩,Ls h.norel λn l=>?_,Nu h.told,by rw[Deaf_still t 0 _ S,h.deaf0],λi N=>?_,
  λk B=>by rw[Deaf_still t _ _ S];exact h.above k o!,λi N v=>?_,h.IK,h.TR,h.cw,λp o d=>?_,?_,λi N Q=>?_,h.dn,h.grown,h.os,h.tape,h.output,λp o b d=>?_,λp o b hl d z=>?_,h.l0,λi N v=>?_⟩
 .rcases Zar i j with F|J
  .obtain⟨g,O,V⟩:=h.wk i F
   refine⟨g,by rw[G o! o!];exact O,?_⟩;rw[upd_ne _ _ o!,upd_ne _ _ o!,upd_ne _ _ o!];rcases u (i+1) o! with⟨c|c,_⟩|⟨_,_,c,m⟩
   .omega
   .omega
   rw[c,m];exact V
  obtain rfl:i=j:=o!
  refine⟨f,?_,?_⟩
  .rw[show K+i=(gs.setIfInBounds 0 a').size by simp[D'],Zav]
  rw[upd_same,upd_same,upd_same];rcases u (i+1) o! with⟨_,c,m⟩|⟨_,c,_⟩
  .rw[c,m];exact .wk hc (Ah.refl w)
  omega
 .rw[G B o!]at O
  have:=h.old k g B hK O;rw[Deaf_still t _ _ S];exact this
 .rcases u p o with⟨_,c,m⟩|⟨z,s,c,m⟩
  .rw[m];rw[c]at d;exact d
  rw[m];rw[c]at d;rcases u p' lR with⟨_,k1,_⟩|⟨_,Z,k1,_⟩
  .rw[k1]at R
   exact h.OQ.two p 0 s (Zp _) z b d R
  rw[k1]at R;exact h.OQ.two p p' s Z BL b d R
 .rcases u p o with⟨_,c,_⟩|⟨z,s,c,_⟩
  .rw[c]at d;exact h.OQ.wg 0 (Zp _) d
  rw[c]at d;exact h.OQ.wg p s d
 .rcases u p o with⟨_,c,_⟩|⟨z,s,c,_⟩
  .rw[c]at d;exact h.OQ.low 0 (Zp _) b d
  rw[c]at d;exact h.OQ.low p s b d
 .rcases Y n l with rfl|rfl
  .rw[M.2];simp
  rw[L.2];simp
 .rw[Deaf_still t _ _ S]
  rcases Zar i j with F|J
  .rw[h.deafW i F,upd_ne _ _ o!]
  obtain rfl:i=j:=o!
  rw[upd_same];exact h.above _ (Zj _)
 .rcases Zar i j with F|J
  .rw[upd_ne _ _ o!]at v
   obtain⟨r,hr,U,B⟩:=h.rel i F v;have I:∀n∈#[x,y],n.g≠K+i:=by
    intro n l;rcases Y n l with rfl|rfl
    .rw[M.1];omega
    rw[L.1];omega
   refine⟨r,hr.appNot I,U,λk a ha W wm=>?_⟩;obtain⟨c,m⟩:=Nv ha I wm;exact B k a c W m
  obtain rfl:i=j:=o!
  rw[upd_same]at v;simp at v
 .rcases u p o with⟨_,c,_⟩|⟨z,s,c,_⟩
  .rw[c]at d;exact h.OT 0 (Zp _) d
  rw[c]at d;exact h.OT p s d
 .obtain⟨T,tm,c,m,h3⟩:=h.ch
  refine⟨T,tm,c,λi=>(m i).trans ⟨λ⟨k1,A⟩=>⟨o!,by rw[upd_ne _ _ o!];exact A⟩,λ⟨k1,A⟩=>?_⟩,h3⟩;by_cases e:i=j
  .subst e;rw[upd_same]at A;cases A
  rw[upd_ne _ _ e]at A;exact⟨o!,A⟩
 .by_cases e:i=j
  .subst e;rw[upd_same]at Q;cases Q
  rw[upd_ne _ _ e]at Q;rcases u (i+1) o! with⟨c|c,_⟩|⟨_,_,c,_⟩
  .omega
  .omega
  rw[c];exact h.pay i o! Q
 .rcases u p o with⟨_,c,_⟩|⟨z,s,c,_⟩
  .rw[c]at d;exact h.ER 0 (Zp _) b d
  rw[c]at d;exact h.ER p s b d
 .rcases u p o with⟨_,c,m⟩|⟨_,s,c,m⟩
  .rw[m];rw[c]at d;exact d
  rw[m];rw[c]at d;exact h.jD p s b hl d z
 by_cases e:i=j
 .subst e;rw[upd_same]at v;simp at v
 rw[upd_ne _ _ e]at v⊢;exact h.e01 i o! v
end
end Go.Pair
namespace Go.Pair
open Go Go.Conc Go.FA
open Go.ConcN (PermW RelBy WgLive CTag phi pend isOpen isW3 isFin OpenSt AllQuit WD Vc Ssum Fsum cnt sumTo sumTo_upd sumTo_congr upd upd_same upd_ne get_map_set get_map_set_same phi_mono phi_retag)
open Go.ConcR (KK WgAt stA smA rd wr mk DC0 Bk g_of_ofEvents)
section
variable {K Wg T₀:Nat}{t u:YZ}{g r:Nat}
def I_.other (h:I_ Wg T₀ t g r)(b:∀op∈u,op.g≠g):I_ Wg T₀ (t++u) g r:=
 ⟨h.1.appNot b,h.2.1,λk a e c d=>by obtain⟨i,f⟩:=Nv e b d;exact h.2.2 k a i c f⟩
variable {p b i j k s' e' m' dd' d KP f' m n:Nat}
variable {es:Array Z9}
def I_.book (h:I_ Wg T₀ t g r)(m:Deaf t g=d)(fn:ZaQ)(pos:String)(i:∀e∈es,Bk Wg e)
 (u:∀j e,es[j]?=some e->(ZR e).touch?=none\/0<zV d (es.extract 0 j)):I_ Wg T₀ (t++ZK g fn pos es) g r:=by
 refine⟨h.1.book m fn pos i u,h.2.1,λk a y o q=>?_⟩;obtain⟨x,n,b⟩:=ZbE y;rcases Yy n with⟨p,l⟩|⟨_,c⟩
 .exact h.2.2 k a (by rw[Zcv l];exact b) o (by simpa[Zal,YS p]using q)
 obtain⟨e,s,rfl⟩:=ZQ c;refine .inr ?_;rcases i e s with f|f|⟨z,w,rfl,v⟩
 .simp only[zI f]at b;cases b
 .simp only[zI f]at b;cases b
 simp only[Zc4,Yg,ZJ]at b;subst b;exact⟨⟨z,rfl,v⟩,i!⟩
def AcqAll (K Wg T₀ j:Nat)(t:YZ):Prop:=
 ∃q,t.act? q=some (.mark (.acquire (stA Wg)))/\t.g? q=some 0/\t.heard q/\∀i,i<j->∃r,I_ Wg T₀ t (K+i) r/\r<q
def AcqAll.app (h:AcqAll K Wg T₀ j t)(e:∀i r,i<j->I_ Wg T₀ t (K+i) r->I_ Wg T₀ (t++u) (K+i) r):AcqAll K Wg T₀ j (t++u):=by
 obtain⟨q,d,l,k,g⟩:=h;have b:=lt_of_act? d;exact⟨q,by rw[act?_old b];exact d,by rw[g?_old b];exact l,(heard_old b).2 k,λi c=>let⟨r,f,a⟩:=g i c;⟨r,e i r c f,a⟩⟩
end
abbrev Mu (P:Zo)(ty:Zs)(Wg:Nat):=Nat×(Fuel P ty Wg×(Fuel P ty Wg×(Nat×(Fuel P ty Wg×Nat))))
def Ja {P:Zo}{ty:Zs}{Wg:Nat}(a b:Mu P ty Wg):Prop:=
 ZcP (λx y:Nat=>x<y) (ZcP Fuel.lt (ZcP Fuel.lt (ZcP (λx y:Nat=>x<y) (ZcP Fuel.lt (λx y:Nat=>x<y))))) a b
def al9 (P:Zo)(ty:Zs)(Wg:Nat):WellFounded (@Ja P ty Wg):=
 (ZcO ZdJ (ZcO ⟨Fuel.lt,Fuel.wf P ty Wg⟩ (ZcO ⟨Fuel.lt,Fuel.wf P ty Wg⟩ (ZcO ZdJ (ZcO ⟨Fuel.lt,Fuel.wf P ty Wg⟩ ZdJ))))).wf
section
variable {P:Zo}{ty:Zs}{Wg:Nat}{N N':Nat}{A A' B B' C C':Fuel P ty Wg}{n n' m m':Nat}
def mu1 (h:N'<N):Ja (N',A',B',n',C',m') (N,A,B,n,C,m):=ZaY _ _ h
def mu2 (h:Fuel.lt A' A):Ja (N,A',B',n',C',m') (N,A,B,n,C,m):=zB _ (ZaY _ _ h)
def mu3 (h:Fuel.lt B' B):Ja (N,A,B',n',C',m') (N,A,B,n,C,m):=zB _ (zB _ (ZaY _ _ h))
def mu4 (h:n'<n):Ja (N,A,B,n',C',m') (N,A,B,n,C,m):=zB _ (zB _ (zB _ (ZaY _ _ h)))
def mu5 (h:Fuel.lt C' C):Ja (N,A,B,n,C',m') (N,A,B,n,C,m):=zB _ (zB _ (zB _ (zB _ (ZaY _ _ h))))
def mu6 (h:m'<m):Ja (N,A,B,n,C,m') (N,A,B,n,C,m):=zB _ (zB _ (zB _ (zB _ (zB _ h))))
end
section
variable(P:Zo)(ty:Zs)(Wg Ch:Nat)(Pay:Nat->Gk)(K T₀:Nat)(Shun:Loc->Prop)(w₀:Zb)(S₀ L₀:Nat->Prop)(Anch AO:Cd)
def Ki (K j:Nat)(D:Nat->WD)(E:Nat->Nat)(X:Nat->Fuel P ty Wg)(q:Nat->Nat)(tag:CTag)(sub:Nat)(X0:Fuel P ty Wg)(f0:Nat):Mu P ty Wg:=
 (phi 2 (Vc j D) tag+sub+Ssum j D+sumTo j E,X 0,X 1,sumTo K q+Fsum j D,X0,f0)
def Inv (l:Mu P ty Wg)(m:Machine)(t:YZ):Prop:=
 ∃(e:Array Zi) (w:Zb) (n:Option (Nat×Nat)) (j:Nat) (D:Nat->WD) (E:Nat->Nat) (X:Nat->Fuel P ty Wg) (H:JJ) (q:Nat->Nat) (i:Nat) (c:Nat->Zf) (b:CTag) (d h:Nat) (k:Fuel P ty Wg) (a:Zi) (f g:Int),
  m=Yj e w n/\e[0]?=some a/\CSit P ty Wg Ch Pay Anch AO (H.S 0) (H.L 0) b d j h k i a w/\Com P ty Wg Ch Pay K T₀ Shun w₀ S₀ L₀ j e w t D E X H q i c/\WgAt ty Wg w f g/\Ye j D b f g/\
  (b=.ret->AcqAll K Wg T₀ j t)/\l=Ki P ty Wg K j D E X q b d k h
end
section
variable {P:Zo}{ty:Zs}{Wg Ch:Nat}{Pay:Nat->Gk}{K T₀:Nat}{Shun:Loc->Prop}{w₀:Zb}{S₀ L₀:Nat->Prop}{Anch AO:Cd}
 {j:Nat} {gs gs':Array Zi} {w w':Zb} {t u:YZ} {D:Nat->WD} {E:Nat->Nat} {X:Nat->Fuel P ty Wg} {H:JJ} {q:Nat->Nat} {d0:Nat} {vals vals':Nat->Zf} {tag:CTag} {sub f0:Nat} {X0:Fuel P ty Wg} {a:Zi} {sl:Option (Nat×Nat)}
variable {S L S' L':Nat->Prop}
def CSit.bound (h:CSit P ty Wg Ch Pay Anch AO S L tag sub j f0 X0 d0 a w):j+pend tag<=2/\j<=2:=by
 cases h<;>simp only[pend]<;>(try simp)<;>omega
variable {p b i k s' e' m' dd' d KP f' m n:Nat}
variable {g g' a':Zi}
variable {QA UG:Int}
def workerStep (Q:∀S g w,AO S g w->g.status=.running)(M:∀S g w,Anch S g w->g.status=.running)
 (d:CSit P ty Wg Ch Pay Anch AO (H.S 0) (H.L 0) tag sub j f0 X0 d0 a w)
 (hi:i<j) {x':Fuel P ty Wg} (F:Ah ty Wg (H.S 0) w w') (m:gs'[0]?=some (woken P g g' w' a)\/gs'[0]?=some a/\(tag=.blk->¬(ZcH P g=true/\g'.status=.running)))
 (V:Com P ty Wg Ch Pay K T₀ Shun w₀ S₀ L₀ j gs' w' (t++u) (upd D i ⟨s',m',dd'⟩) (upd E i e') (upd X i x') (H.set (i+1) S' L') q d0 vals') (U:WgAt ty Wg w' QA UG)
 (Y:∀b,(b=tag\/(tag=.blk/\b=.w3))->(ZcH P g=true->g'.status=.running->b≠ .blk)->Ye j (upd D i ⟨s',m',dd'⟩) b QA UG)
 (T:tag=.ret->AcqAll K Wg T₀ j (t++u))
 (W:(s'+e'<(D i).stage+E i/\s'<=(D i).stage/\cnt ⟨s',m',dd'⟩<=cnt (D i))\/(s'=(D i).stage/\e'=E i/\m'=(D i).fuel/\Fuel.lt x' (X i))\/(s'=(D i).stage/\e'=E i/\x'=X i/\m'+1=(D i).fuel)):
  ∃I,Ja I (Ki P ty Wg K j D E X q tag sub X0 f0)/\Inv P ty Wg Ch Pay K T₀ Shun w₀ S₀ L₀ Anch AO I (Yj gs' w' sl) (t++u):=by
 have hj:=d.bound.2;obtain⟨a',b,f',p,R,B,o⟩:∃a' b f',gs'[0]?=some a'/\CSit P ty Wg Ch Pay Anch AO (H.S 0) (H.L 0) b sub j f' X0 d0 a' w'/\(b=tag\/(tag=.blk/\b=.w3))/\(ZcH P g=true->g'.status=.running->b≠ .blk):=by
  rcases m with m|⟨m,h⟩
  .obtain⟨b,f',n,f,G⟩:=d.wokenBy Q M F g g'
   exact⟨_,b,f',m,n,f,G⟩
  exact⟨a,tag,f0,m,d.rely F,.inl rfl,λx y z=>h z ⟨x,y⟩⟩
 have e1:=sumTo_upd D (⟨s',m',dd'⟩:WD) cnt hi;have e2:=sumTo_upd D (⟨s',m',dd'⟩:WD) WD.stage hi;have e3:=sumTo_upd D (⟨s',m',dd'⟩:WD) WD.fuel hi;have A:=sumTo_upd E e' id hi;refine⟨Ki P ty Wg K j (upd D i ⟨s',m',dd'⟩) (upd E i e') (upd X i x') q b sub X0 f',?_,gs',w',sl,j,_,_,_,_,q,d0,vals',b,sub,f',X0,a',QA,UG,rfl,p,?_,V,U,Y b B o,λe=>?_,rfl⟩
 .have ph:=phi_retag 2 (Vc j (upd D i ⟨s',m',dd'⟩)) B
  unfold Ki;rw[ph];simp only[Vc,Ssum,Fsum,id]at*;rcases W with⟨h,_,n⟩|⟨h,n,Z,f⟩|⟨h,n,f,G⟩
  .have:=phi_mono 2 (v':=sumTo j λa=>cnt (upd D i ⟨s',m',dd'⟩ a)) (v:=sumTo j λa=>cnt (D a)) o! tag
   have c:(sumTo j λa=>upd E i e' a)=sumTo j (upd E i e'):=rfl;have l:(sumTo j λa=>E a)=sumTo j E:=rfl;rw[c,l]at A;exact mu1 o!
  .have O:cnt (⟨s',m',dd'⟩:WD)=cnt (D i):=by simp only[cnt,h]
   have r:(sumTo j λa=>cnt (upd D i ⟨s',m',dd'⟩ a))=sumTo j λa=>cnt (D a):=o!
   have C:(sumTo j λa=>(upd D i ⟨s',m',dd'⟩ a).stage)=sumTo j λa=>(D a).stage:=o!
   have s:sumTo j (upd E i e')=sumTo j E:=by
    have c:(sumTo j λa=>upd E i e' a)=sumTo j (upd E i e'):=rfl;have l:(sumTo j λa=>E a)=sumTo j E:=rfl;rw[c,l]at A;omega
   rw[r,C,s];rcases Zar i 1 with L|J
   .obtain rfl:i=0:=by omega
    refine mu2 ?_;rw[upd_same];exact f
   obtain rfl:i=1:=o!
   rw[upd_ne _ _ (by omega:(0:Nat)≠1)];refine mu3 ?_;rw[upd_same];exact f
  have O:cnt (⟨s',m',dd'⟩:WD)=cnt (D i):=by simp only[cnt,h]
  have r:(sumTo j λa=>cnt (upd D i ⟨s',m',dd'⟩ a))=sumTo j λa=>cnt (D a):=o!
  have C:(sumTo j λa=>(upd D i ⟨s',m',dd'⟩ a).stage)=sumTo j λa=>(D a).stage:=o!
  have s:sumTo j (upd E i e')=sumTo j E:=by
   have c:(sumTo j λa=>upd E i e' a)=sumTo j (upd E i e'):=rfl;have l:(sumTo j λa=>E a)=sumTo j E:=rfl;rw[c,l]at A;omega
  have N:upd X i x'=X:=by
   funext k
   by_cases e:k=i
   .subst e;rw[upd_same,f]
   rw[upd_ne _ _ e]
  rw[r,C,s,N];exact mu4 o!
 .rw[(BB o! _ _).1,(BB o! _ _).2]
  exact R
 rcases B with rfl|⟨_,rfl⟩
 .exact T e
 cases e
variable {Cl:CTag}
def callerStep {b:Fuel P ty Wg}{a:Nat}(c:gs'[0]?=some a')(l:Com P ty Wg Ch Pay K T₀ Shun w₀ S₀ L₀ j gs' w' (t++u) D E X (H.set 0 S' L') q a vals)
 (g:CSit P ty Wg Ch Pay Anch AO S' L' Cl KP j f' b a a' w') (k:WgAt ty Wg w' QA UG) (n:Ye j D Cl QA UG)
 (i:Cl=.ret->AcqAll K Wg T₀ j (t++u))
 (m:phi 2 (Vc j D) Cl+KP<phi 2 (Vc j D) tag+sub\/(phi 2 (Vc j D) Cl+KP=phi 2 (Vc j D) tag+sub/\(Fuel.lt b X0\/(b=X0/\f'<f0)))):
  ∃f,Ja f (Ki P ty Wg K j D E X q tag sub X0 f0)/\Inv P ty Wg Ch Pay K T₀ Shun w₀ S₀ L₀ Anch AO f (Yj gs' w' sl) (t++u):=by
 refine⟨Ki P ty Wg K j D E X q Cl KP b f',?_,gs',w',sl,j,D,E,X,_,q,a,vals,Cl,KP,f',b,a',QA,UG,rfl,c,by rw[(A6 _ _ _).1,(A6 _ _ _).2];exact g,l,k,n,i,rfl⟩;unfold Ki;rcases m with h|⟨e,d|⟨rfl,d⟩⟩
 .exact mu1 o!
 .rw[e];exact mu5 d
 rw[e];exact mu6 d
end
end Go.Pair
namespace Go.Pair
open Go Go.Conc Go.FA
variable {gs' gs:Array Zi}
def partners_nil (h:∀(i:Nat) g,gs[i]?=some g->g.status≠ .blocked\/g.offers=none)(r:Nat)(a:Bool):partners gs r a=[]:=by
 unfold partners;rw[List.flatMap_eq_nil_iff];rintro⟨g,i⟩ d;have c:gs[i]?=some g:=by
  have:=Array.mem_toList_iff.1 d;rw[Array.mem_zipIdx_iff_getElem?]at this;exact this
 rcases h i g c with h|h
 .cases b:g.status<;>simp_all
 cases b:g.status<;>simp[h]
section
variable {P:Zo}{gs:Array Zi}{w:Zb}{sl:Option (Nat×Nat)}{i:Nat}{g Bs:Zi}{es:Array Z9}{c cap s r:Nat}{buf:Array Zf}{z v:Zf}{tm:Bool}
def Qb (hi:gs[i]?=some g)(h:za P (i==0) g w=.comm Bs #[scase c v z] true .send w es)(l:w.heap[c]?=some (.chan cap buf false s r tm))(b:buf.size<cap)
 (j:∀(k:Nat) x,gs[k]?=some x->x.status≠ .blocked\/x.offers=none):
  runT P (Yj gs w sl) i=(.next (Yj (gs.setIfInBounds i (YU Bs Ze)) (w.setChan c cap (buf.push v) false (s+1) r tm) sl),
   ZK i g.frame.fn g.frame.place es++ #[{g:=i,fn:=Bs.frame.fn,pos:=Bs.frame.place,act:=.send c s}, {g:=i,fn:=Bs.frame.fn,pos:=Bs.frame.place,act:=.sendDone c s}]):=by
 obtain⟨d,rfl⟩:=Za.1 hi;have e:=swapAt_of_lt d {(default:Zi) with status:=.finished};have f:partners (gs.set i {(default:Zi) with status:=.finished}) c false=[]:=by
  refine partners_nil (λk x a=>?_) _ _;rw[Array.getElem?_set]at a;split at a
  .cases a;exact .inl i!
  exact j k x a
 show runT P {world:=w,gs:=gs,rest:= {timers:= #[],alone:=none,slice:=sl}} i=_;unfold runT;simp only[e,h,GStep.es];simp[communicate,ways,scase,l,f,b,choose,Sem.run,Question.forced,bind,Zb8,pure,Goroutine.finishComm,commResult,YU,ZbS,Yj];exact set_setIfInBounds d _ _
end
end Go.Pair
namespace Go.Pair
open Go Go.Conc Go.FA
open Go.ConcN (PermW RelBy WgLive CTag phi pend isOpen isW3 isFin OpenSt AllQuit WD Vc Ssum Fsum cnt sumTo sumTo_upd sumTo_congr upd upd_same upd_ne phi_mono phi_retag others_uncounted le_sumTo Vc_upd bk_cell deafBehind_idle)
open Go.ConcR (KK WgAt stA smA rd wr mk DC0 Bk g_of_ofEvents)
section
variable {P:Zo}{m:Bool}{ty:Zs}{Wg Ch:Nat}{Lk:Nat->Prop}{Stop:Cd}{S L:Nat->Prop}{g:Zi}{w w' x:Zb}{es:Array Z9}{K:Nat}{H:JJ}{p:Nat}{fn:ZaQ}{pos:String}
def Be.at_ (h:Be P m ty Wg Lk Stop S g x)(b:Ah ty Wg S x w):Stop S g w\/(g.status=.running/\∃g' w' es,za P m g w=.go g' w' es/\LN S Lk w w' es/\∃n:Be P m ty Wg Lk Stop (Ib S w w') g' w',Fuel.lt n.fuel h.fuel):=by
 by_cases e:∀a,Ah ty Wg S x a->Stop S g a
 .exact .inl (e w b)
 have c:Be P m ty Wg Lk Stop S g x->(g.status=.running/\∃g' w' es,za P m g w=.go g' w' es/\LN S Lk w w' es/\Be P m ty Wg Lk Stop (Ib S w w') g' w'):=by
  intro h;cases h with
  |stop h=>exact absurd h e
  |step d p q o f k=>exact⟨d,_,_,_,(f w b).1,(f w b).2,k w b⟩
 obtain⟨d,g',w',es,i,l,j⟩:=c h;exact .inr ⟨d,g',w',es,i,l,j,rfl,rfl,e,w,es,b,i,rfl⟩
def Lu {e:Z9}(h:VN S Lk e):e.loc≠ .mark .disable/\e.loc≠ .mark .enable/\∀a,e.loc≠ .mark (.release a):=by
 obtain⟨b,wr,c⟩:=e;unfold VN at h;cases b with
 |mark m=>cases m<;>first|exact h.elim|exact⟨i!,i!,i!⟩
 |_=>exact⟨i!,i!,i!⟩
def Px (k:LN (H.S p) (H.L p) w w' es)(q:∀b,H.S p b->b<w.heap.size):KR Wg K H p w w' (ZK (ix K p) fn pos es):=by
 have l:∀b,Ib (H.S p) w w' b->b<w'.heap.size:=λb o=>o.elim (λx=>Zl (q b x) k.size) And.right;refine⟨λj d=>by obtain⟨e,_,rfl⟩:=ZQ d;rfl,λj d=>?_,λj d x g=>?_,λj d h=>?_⟩
 all_goals
  obtain⟨e,n,rfl⟩:=ZQ d;have c:=k.evs e n;obtain⟨f,wr,i⟩:=e;unfold VN at c
 .cases f with
  |cell a=>exact l _ c.1
  |obj r=>dsimp only at c;cases wr<;>cases i<;>exact l _ c.1
  |mark m=>cases m<;>first|exact c.elim|trivial
  |output=>trivial
  |_=>exact c.elim
 .cases f with
  |cell a=>
   simp only[ZR,Yg,ZJ]at g;subst g;exact .inr (.inl ⟨a.block,rfl,c.1,c.2⟩)
  |obj r=>
   dsimp only at c;have:x.loc=.obj r/\x.write=wr:=by cases wr<;>cases i<;>simp[ZR,Yg]at g<;>subst g<;>exact⟨rfl,rfl⟩
   exact .inr (.inl ⟨r,by rw[this.1];rfl,c.1,by rw[this.2];exact c.2⟩)
  |mark m=>cases m<;>first|exact c.elim|(simp[ZR,Yg]at g)
  |output=>
   simp only[ZR,Yg,ZJ]at g;subst g;exact .inr (.inr rfl)
  |_=>exact c.elim
 .cases f with
  |mark m=>cases m<;>first|exact c.elim|(simp[ZR]at h)
  |cell a=>simp[ZR]at h
  |obj r=>cases wr<;>cases i<;>simp[ZR]at h
  |output=>simp[ZR]at h
  |_=>exact c.elim
def FQ (j:∀e∈es,Bk Wg e)(k:Wg<w'):KR Wg K H p w w' (ZK (ix K p) fn pos es):=by
 refine⟨λf b=>by obtain⟨e,_,rfl⟩:=ZQ b;rfl,λf b=>?_,λf b x c=>?_,λf b d=>?_⟩
 all_goals
  obtain⟨e,i,rfl⟩:=ZQ b;rcases j e i with h|h|⟨a,wr,rfl,g⟩
 .rw[zI h];trivial
 .rw[zI h];trivial
 .show a.block<_
  rw[g];exact k
 .simp only[zI h]at c;cases c
 .simp only[zI h]at c;cases c
 .simp only[Zc4,Yg,ZJ]at c
  subst c;exact .inl ⟨⟨a,rfl,g⟩,i!,i!⟩
 .simp only[zI h]at d;cases d
 .simp only[zI h]at d;cases d
 cases d
def Ip {c:Mark}(k:(ZdA c).low w')(f:∀a,c≠ .release a)(ht:(ZdA c).touch?=none\/(p=0/\∃a:Addr,a.block=Wg/\∃wr,(ZdA c).touch?=some ⟨.cell a,wr,.said⟩)):
  KR Wg K H p w w' (ZK (ix K p) fn pos #[mk c]):=by
 have j:ZK (ix K p) fn pos #[mk c]= #[{g:=ix K p,fn,pos,act:=.mark c}]:=by rw[Zb7];simp[Zdq]
 rw[j];refine⟨λe b=>?_,λe b=>?_,λe b x d=>?_,λe b h=>?_⟩<;>(simp only[List.mem_toArray,List.mem_cons,List.not_mem_nil,or_false]at b;subst b)
 .rfl
 .exact k
 .rcases ht with ht|⟨rfl,a,i,wr,ht⟩
  .rw[ht]at d;cases d
  rw[ht]at d;cases d;exact .inl ⟨⟨a,rfl,i⟩,i!,λ_=>rfl⟩
 cases h;exact f _ rfl
def L0 (h:Aside Wg w w')(hl:WgLive ty Wg w'):Ak ty Wg Ch S L w w':=⟨ZcS h.size.symm,λb _ _ a _=>h.block b a,h.os,h.tape,h.output,λ_=>hl⟩
def L5 (h:Aside Wg w w')(hl:WgLive ty Wg w')(c:¬S Wg):Ah ty Wg S w w':=⟨⟨λb a=>h.block b (λe=>c (e▸a)),ZcS h.size.symm,h.os⟩,λ_=>hl⟩
end
section
variable {P:Zo}{ty:Zs}{Wg Ch:Nat}{Pay:Nat->Gk}{K T₀:Nat}{Shun:Loc->Prop}{w₀:Zb}{S₀ L₀:Nat->Prop}{Anch AO:Cd}
 {j:Nat} {gs:Array Zi} {w:Zb} {t:YZ} {D:Nat->WD} {E:Nat->Nat} {X:Nat->Fuel P ty Wg} {H:JJ} {q:Nat->Nat} {d0:Nat} {vals:Nat->Zf} {tag:CTag} {sub f0:Nat} {X0:Fuel P ty Wg} {a:Zi} {sl:Option (Nat×Nat)} {st sm:Int}
def VV (K i:Nat)(a:1<=K):(K+i==0)=false:=j!
def oe {a:Type}(f:Nat->a)(i:Nat):upd f i (f i)=f:=by
 funext k
 by_cases e:k=i
 .subst e;exact upd_same _ _ _
 exact upd_ne _ _ e
variable {p b i k s' e' m' dd' d KP f' m n:Nat}
variable {g g' a':Zi}
def stepWorker (hP:I' ty Wg Pay)(R9:∀S g w,AO S g w->g.status=.running)(hA:∀S g w,Anch S g w->g.status=.running)
 (Q:gs[0]?=some a) (ac:CSit P ty Wg Ch Pay Anch AO (H.S 0) (H.L 0) tag sub j f0 X0 d0 a w) (A:Com P ty Wg Ch Pay K T₀ Shun w₀ S₀ L₀ j gs w t D E X H q d0 vals) (N:WgAt ty Wg w st sm) (AM:Ye j D tag st sm)
 (Jb:tag=.ret->AcqAll K Wg T₀ j t) (hi:i<j) (hg:gs[K+i]?=some g) (By:g.status=.running):
  ∃n F V,runT P (Yj gs w sl) (K+i)=(.next n,F)/\Ja V (Ki P ty Wg K j D E X q tag sub X0 f0)/\Inv P ty Wg Ch Pay K T₀ Shun w₀ S₀ L₀ Anch AO V n (t++F):=by
 obtain⟨AH,gC,hs⟩:=A.wk i hi;obtain rfl:g=AH:=by rw[hg]at gC;exact ZW gC
 generalize B_:(D i).stage=s at hs;generalize b9:(D i).fuel=m at hs;generalize ci:(D i).deaf=dd at hs;generalize lT:E i=e at hs;generalize lV:X i=x at hs;have hb:=ac.bound;have Fy:=A.pos;have ed:=ZdS j D;have jF:Deaf t (K+i)=dd:=by rw[A.deafW i hi,ci]
 have hp:i+1<=j:=hi;have gD:¬H.S (i+1) Wg:=A.OQ.wg _ hp;have ck:¬H.S 0 Wg:=A.OQ.wg _ (Zp _);have fi:0<K+i:=o!
 have Mx:K+i<gs.size:=(Za.1 hg).1;have nr:s≠1->tag≠ .ret:=λh=>AM.not_ret hi o!;have og:∀ {g':Zi} {o:Zb} {es:Array Z9} {s' m' dd':Nat} {QA UG:Int},za P false g w=.go g' o es->Aside Wg w o->WgAt ty Wg o QA UG->KR Wg K H (i+1) w o (ZK (K+i) g.frame.fn g.frame.place es)->
   WSit P ty Wg Ch (Pay i) (H.S (i+1)) (H.L (i+1)) s' 0 m' dd' (X i) g' o->zV dd es=dd'->e=0->
   (s'<=6->∃r,I_ Wg T₀ (t++ZK (K+i) g.frame.fn g.frame.place es) (K+i) r)->
   (∀Cl,(Cl=tag\/(tag=.blk/\Cl=.w3))->(ZcH P g=true->g'.status=.running->Cl≠ .blk)->Ye j (upd D i ⟨s',m',dd'⟩) Cl QA UG)->(tag=.ret->AcqAll K Wg T₀ j (t++ZK (K+i) g.frame.fn g.frame.place es))->((s'<s/\cnt ⟨s',m',dd'⟩<=cnt (D i))\/(s'=s/\m'+1=m))->
   ∃n F V,runT P (Yj gs w sl) (K+i)=(.next n,F)/\Ja V (Ki P ty Wg K j D E X q tag sub X0 f0)/\Inv P ty Wg Ch Pay K T₀ Shun w₀ S₀ L₀ Anch AO V n (t++F):=by
  intro g' o es s' m' dd' QA UG c gE KS U DX Pv ai hrel GL au Az;have Ka:WgLive ty Wg o:=⟨_,_,KS⟩;have hW:Ib (H.S (i+1)) w o=H.S (i+1):=by rw[R8 _ gE.size,Hu]
  have d:upd E i 0=E:=by rw[<-ai, <-lT];exact oe E i
  have co:E i=0:=lT.trans ai;have T:Ak ty Wg Ch (H.S (i+1)) (H.L (i+1)) w o:=L0 gE Ka;have FB:=Zb1 (P:=P) (sl:=sl) (i:=K+i) hg (by rw[VV K i Fy];exact c);have B5:=A.stepW hP hi (gs':=(gs.map (woken P g g' o)).setIfInBounds (K+i) g') T U (by rw[hW];exact DX) (by rw[Deaf_own,jF];exact Pv) hrel i! (Zbo _ _ _ Mx)
   (λk G I=>A.Gl g g' o _ G I) (by rw[d];exact A.ch.CN (gE.block Ch A.cw)) (λ_ _=>rfl) (λ_=>by rw[hW];exact hP _ _ _ _ _ (A.pay i hi co) (L5 gE Ka gD)) (λ_=>rfl)
  obtain⟨V,G,I⟩:=workerStep (sl:=sl) R9 hA ac hi (g:=g) (g':=g') (L5 gE Ka ck) (.inl (by rw[Zcb _ _ _ _ o!,Q];rfl)) B5 KS GL au (by
    rcases Az with⟨a1,a2⟩|⟨a1,a2⟩
    .exact .inl ⟨o!,o!,a2⟩
    exact .inr (.inr ⟨o!,o!,rfl,o!⟩))
  exact⟨_,_,V,FB,G,I⟩
 have wv:∀ {g':Zi} {o:Zb} {es:Array Z9} {s' m' dd':Nat} {QA UG:Int},za P false g w=.go g' o es->Aside Wg w o->WgAt ty Wg o QA UG->(∀e∈es,Bk Wg e)->
   (∀J e,es[J]?=some e->(ZR e).touch?=none\/0<zV dd (es.extract 0 J))->WSit P ty Wg Ch (Pay i) (H.S (i+1)) (H.L (i+1)) s' 0 m' dd' (X i) g' o->zV dd es=dd'->s<=6->
   (∀Cl,(Cl=tag\/(tag=.blk/\Cl=.w3))->(ZcH P g=true->g'.status=.running->Cl≠ .blk)->Ye j (upd D i ⟨s',m',dd'⟩) Cl QA UG)->(tag=.ret->AcqAll K Wg T₀ j (t++ZK (K+i) g.frame.fn g.frame.place es))->((s'<s/\cnt ⟨s',m',dd'⟩<=cnt (D i))\/(s'=s/\m'+1=m))->
   ∃n F V,runT P (Yj gs w sl) (K+i)=(.next n,F)/\Ja V (Ki P ty Wg K j D E X q tag sub X0 f0)/\Inv P ty Wg Ch Pay K T₀ Shun w₀ S₀ L₀ Anch AO V n (t++F):=by
  intro g' o es s' m' dd' QA UG c gE KS Ga hd DX Pv h6 GL au Az;refine og c gE KS (FQ (p:=i+1) (K:=K) Ga (by rw[gE.size];exact A.IK)) DX Pv (by rw[<-lT];exact A.e01 i hi o!) (λ_=>?_) GL au Az;obtain⟨r,hr⟩:=A.rel i hi o!;exact⟨r,I_.book hr jF _ _ Ga hd⟩
 have M:∀ {g':Zi} {o:Zb} {es:Array Z9} {s' m' dd':Nat} {QA UG:Int},za P false g w=.go g' o es->Aside Wg w o->WgAt ty Wg o QA UG->(∀e∈es,Bk Wg e)->
   (∀J e,es[J]?=some e->(ZR e).touch?=none\/0<zV dd (es.extract 0 J))->WSit P ty Wg Ch (Pay i) (H.S (i+1)) (H.L (i+1)) s' 0 m' dd' (X i) g' o->zV dd es=dd'->s<=6->
   Ye j (upd D i ⟨s',m',dd'⟩) tag QA UG->(tag=.ret->AcqAll K Wg T₀ j (t++ZK (K+i) g.frame.fn g.frame.place es))->((s'<s/\cnt ⟨s',m',dd'⟩<=cnt (D i))\/(s'=s/\m'+1=m))->
   ∃n F V,runT P (Yj gs w sl) (K+i)=(.next n,F)/\Ja V (Ki P ty Wg K j D E X q tag sub X0 f0)/\Inv P ty Wg Ch Pay K T₀ Shun w₀ S₀ L₀ Anch AO V n (t++F):=
  λc gE KS Ga hd DX Pv h6 GL au Az=>wv c gE KS Ga hd DX Pv h6 (λ_ ht _=>GL.retag ht) au Az
 have R:∀ {g':Zi} {m':Nat},za P false g w=.go g' w #[]->WSit P ty Wg Ch (Pay i) (H.S (i+1)) (H.L (i+1)) s 0 m' dd (X i) g' w->m'+1=m->s<=7->e=0->s≠1->
   ∃n F V,runT P (Yj gs w sl) (K+i)=(.next n,F)/\Ja V (Ki P ty Wg K j D E X q tag sub X0 f0)/\Inv P ty Wg Ch Pay K T₀ Shun w₀ S₀ L₀ Anch AO V n (t++F):=by
  intro g' m' c DX hm h6 ai G;refine og c (.refl Wg w) N (FQ (p:=i+1) (K:=K) i! A.IK) DX rfl ai (λh=>?_) (λ_ ht _=>ConcN.Mode.retag (by have:=AM.same (i:=i) m' dd;rwa[B_]at this) ht) (λe=>absurd e (AM.not_ret hi o!)) (.inr ⟨rfl,hm⟩);obtain⟨r,hr⟩:=A.rel i hi o!;exact⟨r,I_.book hr jF _ _ i! i!⟩
 cases hs with
 |wk h hr=>
  rcases h.at_ hr with⟨_,Y,v,z,bU,jE,B,O⟩|⟨_,g',o,es,c,hG,h',hf⟩
  ·
   obtain⟨u,tm,rJ,nF,wA⟩:=A.ch;have wB:i∉u:=λZ=>by have:=((nF i).1 Z).2;omega
   have bc:u.length<2:=by
    match u,rJ,nF,wB with
    | [],_,_,_=>exact Nat.zero_lt_two
    | [x],_,_,_=>exact Nat.one_lt_two
    |x::y::l,G,I,h3=>
     exfalso;have Z:=((I x).1 i!).1;have hy:=((I y).1 i!).1;have du:x≠y:=λe=>by subst e;simp at G
     have ea:x≠i:=λe=>h3 (by simp[e]);have dl:y≠i:=λe=>h3 (by simp[e]);omega
   have jH:∀(k:Nat) x,gs[k]?=some x->x.status≠ .blocked\/x.offers=none:=by
    intro k x O;have fm:=(Za.1 O).1;have D':=A.size;rcases zQ k with rfl|Tr
    .rw[Q]at O;cases O
     rcases ac.status R9 hA with⟨G,_⟩|⟨_,rfl⟩
     .exact .inl (by rw[G];simp)
     cases ac with
     |blk hb=>exact .inr (hb w (Ah.refl w)).2.1
    rcases Zar k K with be|be
    .exact .inl (by rcases(A.old k x Tr be O).status with G|G<;>rw[G]<;>simp)
    obtain⟨y,hy,bv⟩:=A.wk (k - K) o!;rw[show K+(k - K)=k by omega,O]at hy;cases hy;exact .inl (by rcases bv.status with G|⟨G,_⟩<;>rw[G]<;>simp)
   have FB:=Qb (P:=P) (sl:=sl) (i:=K+i) hg (by rw[VV K i Fy];exact bU) wA (by simpa using bc) jH;generalize rL:w.setChan Ch 2 ((u.map vals).toArray.push v) false (u.length+1) 0 tm=o at FB;have Sb:o=w.heap.size:=by rw[<-rL];simp[ZbS]
   have Qc:∀b,b≠Ch->o.heap[b]?=w.heap[b]? :=λb hb=>by rw[<-rL];simp[ZbS,Za0 hb]
   have ct:o.heap[Ch]?=some (.chan 2 ((u.map vals).toArray.push v) false (u.length+1) 0 tm):=by
    have:=A.TR;rw[<-rL];simp[ZbS,this]
   have Em:∀S:Nat->Prop,¬S Ch->Ah ty Wg S w o:=λS hS=>⟨⟨λb hb=>Qc b (λe=>hS (e▸hb)),ZcS Sb.symm,by rw[<-rL];rfl⟩,λ⟨a,b,hl⟩=>⟨a,b,(Qc Wg (Za0 A.cw)).trans hl⟩⟩;have hW:Ib (H.S (i+1)) w o=H.S (i+1):=by rw[R8 _ Sb,Hu]
   have T:Ak ty Wg Ch (H.S (i+1)) (H.L (i+1)) w o:=⟨ZcS Sb.symm,λb _ _ _ I=>Qc b I,by rw[<-rL];rfl,by rw[<-rL];rfl,by rw[<-rL];rfl,(Em (λ_=>False) (λh=>h)).live⟩;have hu:∀W∈(ZK (K+i) g.frame.fn g.frame.place #[]++ #[{g:=K+i,fn:=Y.frame.fn,pos:=Y.frame.place,act:=.send Ch u.length}, {g:=K+i,fn:=Y.frame.fn,pos:=Y.frame.place,act:=.sendDone Ch u.length}]:YZ),W.g=K+i/\(W.act=.send Ch u.length\/W.act=.sendDone Ch u.length):=by
    intro W C;rw[Zb7]at C;simp at C;rcases C with rfl|rfl
    .exact⟨rfl,.inl rfl⟩
    exact⟨rfl,.inr rfl⟩
   have bi:∀W∈(ZK (K+i) g.frame.fn g.frame.place #[]++ #[{g:=K+i,fn:=Y.frame.fn,pos:=Y.frame.place,act:=.send Ch u.length}, {g:=K+i,fn:=Y.frame.fn,pos:=Y.frame.place,act:=.sendDone Ch u.length}]:YZ),W.act.touch?=none:=by
    intro W C;rcases(hu W C).2 with h|h<;>rw[h]<;>rfl
   have U:KR Wg K H (i+1) w o (ZK (K+i) g.frame.fn g.frame.place #[]++ #[{g:=K+i,fn:=Y.frame.fn,pos:=Y.frame.place,act:=.send Ch u.length}, {g:=K+i,fn:=Y.frame.fn,pos:=Y.frame.place,act:=.sendDone Ch u.length}]:YZ):=by
    have:=A.TR;refine⟨λW C=>(hu W C).1,λW C=>?_,λW C x Z=>(by rw[bi W C]at Z;cases Z),λW C Z=>?_⟩
    .rcases(hu W C).2 with h|h<;>rw[h]<;>(show Ch<_;omega)
    rcases(hu W C).2 with h|h<;>rw[h]at Z<;>cases Z
   have Kq:Deaf (t++(ZK (K+i) g.frame.fn g.frame.place #[]++ #[{g:=K+i,fn:=Y.frame.fn,pos:=Y.frame.place,act:=.send Ch u.length}, {g:=K+i,fn:=Y.frame.fn,pos:=Y.frame.place,act:=.sendDone Ch u.length}]:YZ)) (K+i)=0:=by
    rw[ConcN.Deaf_still t _ _ λW C=>?_]
    .exact jF
    rcases(hu W C).2 with h|h<;>rw[h]<;>exact⟨i!,i!⟩
   have B5:=A.stepW hP hi (gs':=gs.setIfInBounds (K+i) (YU Y Ze)) (x':=X i) (s':=7) (e':=0) (m':=B) (dd':=0) (vals':=upd vals i v) T U (by rw[hW];exact .r0 (Yb Cs O (Em _ (A.OT _ hp)))) Kq (λh=>o!) i!
    (by simp[Mx]) (λk G I=>by rw[Zk (Za0 I)])
    ⟨u++ [i],tm,by
     rw[List.nodup_append];refine⟨rJ,i!,λa Q b hb=>?_⟩;simp at hb;subst hb;exact λe=>wB (e▸Q),λk=>by
     rw[Zab,nF k];constructor
     .rintro(⟨k1,k2⟩|k1)
      .refine⟨k1,?_⟩
       by_cases e:k=i
       .subst e;exact upd_same _ _ _
       rw[upd_ne _ _ e];exact k2
      simp at k1;subst k1;exact⟨hi,upd_same _ _ _⟩
     .rintro⟨k1,k2⟩
      by_cases e:k=i
      .exact .inr (by simp[e])
      rw[upd_ne _ _ e]at k2;exact .inl ⟨k1,k2⟩,by
     rw[ct];have e1:(u++ [i]).map (upd vals i v)=u.map vals++ [v]:=by
      rw[Zai,List.map_cons,List.map_nil,upd_same]
      congr 1
      refine List.map_congr_left λk O=>?_;exact upd_ne _ _ (λe=>wB (e▸O))
     rw[e1];simp⟩
    (λk O=>upd_ne _ _ O) (λ_=>by rw[hW,upd_same];exact hP _ _ _ _ _ jE (Em _ (A.OT _ hp))) (λ_=>rfl)
   have KS:WgAt ty Wg o st sm:=(Qc Wg (Za0 A.cw)).trans N;have GL:Ye j (upd D i ⟨7,B,0⟩) tag st sm:=by have:=AM.same (i:=i) B 0;rwa[B_]at this
   obtain⟨V,G,I⟩:=workerStep (sl:=sl) R9 hA ac hi (g:=g) (g':= {g with status:=.blocked}) (Em _ (A.OT _ (Zp _))) (.inr ⟨by rw[Zk o!];exact Q,λ_ h=>by simp at h⟩) B5 KS (λ_ ht _=>GL.retag ht) (λe=>absurd e (nr o!))
    (.inl ⟨o!,o!,by simp[cnt,B_]⟩)
   exact⟨_,_,V,FB,G,I⟩
  ·
   have Jc:=A.OQ.low (i+1) hp;have U:KR Wg K H (i+1) w o (ZK (K+i) g.frame.fn g.frame.place es):=Px hG Jc;have T:Ak ty Wg Ch (H.S (i+1)) (H.L (i+1)) w o:=Ak.gy hG gD A.IK;have FB:=Zb1 (P:=P) (sl:=sl) (i:=K+i) hg (by rw[VV K i Fy];exact c);have Pv:zV 0 es=0:=deafBehind_idle (λe d=>⟨(Lu (hG.evs e d)).1,(Lu (hG.evs e d)).2.1⟩) 0;have lW:upd E i 1=E:=by rw[<-lT];exact oe E i
   have B5:=A.stepW hP hi (gs':=(gs.map (woken P g g' o)).setIfInBounds (K+i) g') T U (.wk h' (Ah.refl _)) (by rw[Deaf_own,jF];exact Pv) (λh=>o!) i! (Zbo _ _ _ Mx)
    (λk G I=>A.Gl g g' o _ G I) (vals':=vals) (by rw[lW];exact A.ch.CN (hG.still Ch A.TR (.inl (A.OT _ hp)))) (λ_ _=>rfl) (λh=>o!) (λh=>o!)
   have KS:WgAt ty Wg o st sm:=(hG.still Wg A.IK (.inl gD)).trans N;have GL:Ye j (upd D i ⟨7,0,0⟩) tag st sm:=by have:=AM.same (i:=i) 0 0;rwa[B_]at this
   obtain⟨V,G,I⟩:=workerStep (sl:=sl) R9 hA ac hi (g:=g) (g':=g') (A.VT hp T (Zp _) o!) (.inl (by rw[Zcb _ _ _ _ o!,Q];rfl)) B5 KS (λ_ ht _=>GL.retag ht) (λe=>absurd e (nr o!))
    (.inr (.inl ⟨B_.symm,lT.symm,b9.symm,by rw[lV];exact hf⟩))
   exact⟨_,_,V,FB,G,I⟩
 |r0 h=>
  rcases zT h with Bt|⟨m',rfl,Bu⟩
  .obtain⟨_,g',c,B,O⟩:=Bt w (Ah.refl w)
   have rM:=A.IK;refine og c (.refl Wg w) N (Ip (p:=i+1) (K:=K) (by exact rM) i! (.inl rfl)) (.k1 O) rfl rfl (λ_=>?_) (λ_ ht _=>(AM.counted hi o! (.inl rfl) _ _).retag ht) (λe=>absurd e (nr o!)) (.inl ⟨o!,by simp[cnt,B_]⟩);refine⟨t.size,RelBy.new (by rw[jF]) _ _,A.told,λk a Q _ wm=>.inl ?_⟩;obtain⟨x,Z,_⟩:=ZbE Q;have:=lt_size_of_getElem? Z;rw[Zb7]at this;simp at this;omega
  .obtain⟨g',o,es,c,⟨rfl,rfl⟩,GM⟩:=Bu w (Ah.refl w)
   exact R c (.r0 GM) rfl o! rfl o!
 |k1 h=>
  rcases zT h with Bt|⟨m',rfl,Bu⟩
  .obtain⟨_,g',c,B,O⟩:=Bt w (Ah.refl w)
   exact M c (.refl Wg w) N (by intro e d;simp at d;subst d;exact .inl rfl) (by intro J e d;exact .inl (by have:=zY d;simp at this;subst this;rfl)) (.d1 O) rfl o!
    (AM.counted hi o! (.inr rfl) _ _) (λe=>absurd e (nr o!)) (.inl ⟨o!,by simp[cnt,B_]⟩)
  .obtain⟨g',o,es,c,⟨rfl,rfl⟩,GM⟩:=Bu w (Ah.refl w)
   exact R c (.k1 GM) rfl o! rfl o!
 |d1 h=>
  rcases zT h with Bt|⟨m',rfl,Bu⟩
  .obtain⟨_,FJ⟩:=Bt w (Ah.refl w)
   have L6:cnt (D i)=1:=by simp[cnt,B_]
   have fd:1<=Vc j D:=by have:=le_sumTo (f:=λx=>cnt (D x)) hi;simp only[Vc];omega
   have an:∀e∈#[rd (stA Wg),wr (stA Wg)],Bk Wg e:=by intro e d;simp at d;rcases d with rfl|rfl<;>exact bk_cell _ _ rfl
   have am:∀J e,(#[rd (stA Wg),wr (stA Wg)]:Array Z9)[J]?=some e->(ZR e).touch?=none\/0<zV 1 ((#[rd (stA Wg),wr (stA Wg)]:Array Z9).extract 0 J):=by
    intro J e d
    match J,d with
    |0,_=>exact .inr (by simp[zV])
    |1,_=>exact .inr (by simp[zV,rd])
    |J+2,d=>simp at d
   have ba:∀q,cnt (⟨1,q,1⟩:WD)=0:=λ_=>rfl;have ap:∀q,OpenSt j D->OpenSt j (upd D i ⟨1,q,1⟩):=λq h a Q=>by
    by_cases e:a=i
    .subst e;rw[upd_same];simp
    rw[upd_ne D _ e];exact h a Q
   cases AM with
   |opn G I h3=>
    obtain⟨v,hv⟩:∃v,Vc j D+pend tag=v+1:=⟨Vc j D+pend tag - 1,o!⟩;rw[hv]at N;have lX:WgAt ty Wg w (((v:Nat)+1)*KK+((0:Nat):Int)) 0:=by simpa using N
    obtain⟨g',c,_,hq⟩:=FJ v 0 o! o! lX;obtain⟨q,hq⟩:=hq o!;have iZ:Vc j (upd D i ⟨1,q,1⟩)+pend tag=v:=by have:=Vc_upd D (⟨1,q,1⟩:WD) hi;have:=ba q;omega
    refine M c (Y8 w (stA Wg) _) (N.setSt _) an am (.quit hq) rfl o! ?_ (λe=>absurd e (nr o!)) (.inl ⟨o!,by simp[cnt]⟩);have e:((v:Nat):Int)*KK+((0:Nat):Int)=((Vc j (upd D i ⟨1,q,1⟩)+pend tag:Nat):Int)*KK:=by rw[iZ];simp
    rw[e];exact .opn G (ap q I) (λvs ev=>by have:=h3 vs ev;omega)
   |reg G I h3=>
    obtain⟨v,hv⟩:∃v,Vc j D=v+1:=⟨Vc j D - 1,o!⟩;rw[hv]at N;have hp:pend tag=0:=by cases tag<;>first|rfl|exact G.elim
    have lX:WgAt ty Wg w (((v:Nat)+1)*KK+((1:Nat):Int)) 0:=by simpa using N
    obtain⟨g',c,hl,hq⟩:=FJ v 1 o! o! lX;by_cases Xf:v=0
    .subst Xf
     obtain⟨B,O⟩:=hl ⟨rfl,rfl⟩;refine M c (Y8 w (stA Wg) _) (N.setSt _) an am (.d2 O) rfl o! ?_ (λe=>absurd e (nr o!)) (.inl ⟨o!,by simp[cnt]⟩);have Qc:∀a,a<j->a≠i->(D a).stage=1:=λa Q e=>by
      have c0:=others_uncounted hi hv L6 a Q e;have:=I a Q;simp only[cnt]at c0;split at c0<;>omega
     have:=Zb4 (j:=j) (D:=upd D i ⟨4,B,1⟩) (tag:=tag) i G hi (by rw[upd_same];simp) (λa Q e=>by rw[upd_ne D _ e];exact Qc a Q e);rw[upd_same]at this;simpa using this
    .obtain⟨q,hq⟩:=hq o!
     have iZ:Vc j (upd D i ⟨1,q,1⟩)=v:=by have:=Vc_upd D (⟨1,q,1⟩:WD) hi;have:=ba q;omega
     refine M c (Y8 w (stA Wg) _) (N.setSt _) an am (.quit hq) rfl o! ?_ (λe=>absurd e (nr o!)) (.inl ⟨o!,by simp[cnt]⟩);have e:((v:Nat):Int)*KK+((1:Nat):Int)=((Vc j (upd D i ⟨1,q,1⟩):Nat):Int)*KK+1:=by rw[iZ];simp
     rw[e];exact .reg G (ap q I) o!
   |last L _ I h3 h4=>
    by_cases e:i=L
    .subst e;omega
    .have:=h4 i hi e;omega
   |sema I=>have:=I i hi;omega
   |fin _ I=>have:=I i hi;omega
  .obtain⟨g',o,es,c,⟨rfl,rfl⟩,GM⟩:=Bu w (Ah.refl w)
   exact R c (.d1 GM) rfl o! rfl o!
 |d2 h=>
  rcases zT h with Bt|⟨m',rfl,Bu⟩
  .obtain⟨_,Z⟩:=Bt w (Ah.refl w)
   obtain⟨Hv,Qc,rfl,rfl⟩:=AM.isLast hi o!;simp only[B_]at N;obtain⟨g',c,B,O⟩:=Z (by simpa using N);refine M c (.refl Wg w) N (by intro e d;simp at d;subst d;exact bk_cell _ _ rfl) (by intro J e d;match J,d with|0,_=>exact .inr (by simp[zV])|J+1,d=>simp at d) (.d3 O) rfl o! ?_ (λe=>absurd e (nr o!)) (.inl ⟨o!,by simp[cnt]⟩);have:=Zb4 (j:=j) (D:=upd D i ⟨3,B,1⟩) (tag:=tag) i Hv hi (by rw[upd_same];simp) (λa Q e=>by rw[upd_ne D _ e];exact Qc a Q e);rw[upd_same]at this;simpa using this
  .obtain⟨g',o,es,c,⟨rfl,rfl⟩,GM⟩:=Bu w (Ah.refl w)
   exact R c (.d2 GM) rfl o! rfl o!
 |d3 h=>
  rcases zT h with Bt|⟨m',rfl,Bu⟩
  .obtain⟨_,Z⟩:=Bt w (Ah.refl w)
   obtain⟨Hv,Qc,rfl,rfl⟩:=AM.isLast hi o!;simp only[B_]at N;obtain⟨g',c,B,O⟩:=Z (by simpa using N);refine M c (Y8 w (stA Wg) _) (N.setSt 0) (by intro e d;simp at d;subst d;exact bk_cell _ _ rfl) (by intro J e d;match J,d with|0,_=>exact .inr (by simp[zV])|J+1,d=>simp at d) (.d4 O) rfl o! ?_ (λe=>absurd e (nr o!)) (.inl ⟨o!,by simp[cnt]⟩);have:=Zb4 (j:=j) (D:=upd D i ⟨2,B,1⟩) (tag:=tag) i Hv hi (by rw[upd_same];simp) (λa Q e=>by rw[upd_ne D _ e];exact Qc a Q e);rw[upd_same]at this;simpa using this
  .obtain⟨g',o,es,c,⟨rfl,rfl⟩,GM⟩:=Bu w (Ah.refl w)
   exact R c (.d3 GM) rfl o! rfl o!
 |d4 h=>
  rcases zT h with Bt|⟨m',rfl,Bu⟩
  .obtain⟨_,b8,Z⟩:=Bt w (Ah.refl w)
   obtain⟨Hv,Qc,rfl,rfl⟩:=AM.isLast hi o!;simp only[B_]at N;obtain⟨g',c,q,hq⟩:=Z (by simpa using N);have UH:g'.status=.running:=by
    cases q with
    |zero=>exact absurd hq.2 d!
    |succ q=>exact hq.elim (λx=>absurd x.2 d!) (λx=>x.1)
   refine wv c (Y8 w (smA Wg) _) (N.setSm 1) (es:=Zax (smA Wg)) ?_ ?_ (.quit hq) (by simp[zV,Zax]) o! ?_ (λe=>absurd e (nr o!)) (.inl ⟨o!,by simp[cnt]⟩)
   .intro e d
    simp[Zax]at d;rcases d with rfl|rfl|rfl|rfl
    .exact .inl rfl
    .exact bk_cell _ _ rfl
    .exact bk_cell _ _ rfl
    exact .inr (.inl rfl)
   .intro J e d
    match J,d with
    |0,d=>simp[Zax]at d;subst d;exact .inl rfl
    |1,_=>exact .inr (by simp[zV,Zax])
    |2,_=>exact .inr (by simp[zV,Zax])
    |3,d=>simp[Zax]at d;subst d;exact .inl rfl
    |J+4,d=>simp[Zax]at d
   intro Cl ht hw;have bV:=hw b8 UH;have e3:Cl=.w3:=by
    rcases ht with rfl|⟨_,rfl⟩
    .cases Cl<;>first|rfl|exact Hv.elim|exact absurd rfl bV
    rfl
   subst e3;simp only[if_true];exact .sema λa Q=>by
    by_cases e:a=i
    .subst e;rw[upd_same]
    rw[upd_ne D _ e];exact Qc a Q e
  .obtain⟨g',o,es,c,⟨rfl,rfl⟩,GM⟩:=Bu w (Ah.refl w)
   exact R c (.d4 GM) rfl o! rfl o!
 |quit h=>
  cases m with
  |zero=>rw[h.1]at By;cases By
  |succ q=>
   rcases h with⟨hf,_⟩|⟨_,g',es,wC,Bu,hq⟩
   .rw[hf]at By;cases By
   have Ga:∀e∈es,Bk Wg e:=λe d=>Go.ConcR.bk_of_mute (wC e d);have KJ:∀J e,es[J]?=some e->(ZR e).touch?=none\/0<zV dd (es.extract 0 J):=λJ e d=>.inl (touch_mute (wC e (zY d)));refine M (Bu w) (.refl Wg w) N Ga KJ (.quit hq) rfl o! (by have:=AM.same (i:=i) q (zV dd es);rwa[B_]at this) (λe=>(Jb e).app λi' r DN hr=>?_) (.inr ⟨rfl,rfl⟩);by_cases e':i'=i
   .subst e';exact I_.book hr jF _ _ Ga KJ
   exact I_.other hr λW C=>by
    obtain⟨e,_,rfl⟩:=ZQ C;show K+i≠K+i';omega
end
end Go.Pair
namespace Go.Pair
open Go Go.Conc Go.FA
open Go.ConcN (PermW RelBy WgLive CTag phi pend isOpen isW3 isFin OpenSt AllQuit WD Vc Ssum Fsum cnt sumTo sumTo_upd sumTo_congr sumTo_upd_out upd upd_same upd_ne phi_mono phi_retag allQuit_of bk_cell bk_dis bk_en bk_rd bk_rw bk_sem)
open Go.ConcR (KK WgAt stA smA rd wr mk DC0 Bk g_of_ofEvents)
section
variable(P:Zo)(ty:Zs)(Wg Ch:Nat)(Pay:Nat->Gk)(K T₀:Nat)(Shun:Loc->Prop)(w₀:Zb)(S₀ L₀:Nat->Prop)(Anch AO:Cd)
def Fin (m:Machine)(t:YZ):Prop:=
 ∃(c:Array Zi) (w:Zb) (d:Option (Nat×Nat)) (D:Nat->WD) (E:Nat->Nat) (X:Nat->Fuel P ty Wg) (H:JJ) (q:Nat->Nat) (b:Nat->Zf) (a:Zi),
  m=Yj c w d/\c[0]?=some a/\Anch (H.S 0) a w/\Com P ty Wg Ch Pay K T₀ Shun w₀ S₀ L₀ 2 c w t D E X H q 0 b/\WgAt ty Wg w 0 0/\AllQuit 2 D/\AcqAll K Wg T₀ 2 t
end
section
variable {P:Zo}{ty:Zs}{Wg Ch:Nat}{Pay:Nat->Gk}{K T₀:Nat}{Shun:Loc->Prop}{w₀:Zb}{S₀ L₀:Nat->Prop}{Anch AO:Cd}
 {j:Nat} {gs:Array Zi} {w:Zb} {t:YZ} {D:Nat->WD} {E:Nat->Nat} {X:Nat->Fuel P ty Wg} {H:JJ} {q:Nat->Nat} {d0:Nat} {vals:Nat->Zf} {tag:CTag} {sub f0:Nat} {X0:Fuel P ty Wg} {a:Zi} {sl:Option (Nat×Nat)} {st sm:Int}
variable {g g' a':Zi}
variable {w' w₁ w₂:Zb}
variable {es:Array Z9}
variable {Cl:CTag}
variable {p b i k s' e' m' dd' d KP f' m n:Nat}
variable {QA UG:Int}
def bookC (r:I' ty Wg Pay)(l:gs[0]?=some a)(e:Com P ty Wg Ch Pay K T₀ Shun w₀ S₀ L₀ j gs w t D E X H q d0 vals)
 {f:Fuel P ty Wg} (g:za P true a w=.go a' w' es) (h:Aside Wg w w') (m:WgAt ty Wg w' QA UG)
 (U:KR Wg K H 0 w w' (ZK 0 a.frame.fn a.frame.place es)) (y:CSit P ty Wg Ch Pay Anch AO (H.S 0) (H.L 0) Cl KP j f' f (zV d0 es) a' w') (C:Ye j D Cl QA UG)
 (z:Cl=.ret->AcqAll K Wg T₀ j (t++ZK 0 a.frame.fn a.frame.place es))
 (B:phi 2 (Vc j D) Cl+KP<phi 2 (Vc j D) tag+sub\/(phi 2 (Vc j D) Cl+KP=phi 2 (Vc j D) tag+sub/\(Fuel.lt f X0\/(f=X0/\f'<f0)))):
  ∃b c d,runT P (Yj gs w sl) 0=(.next b,c)/\Ja d (Ki P ty Wg K j D E X q tag sub X0 f0)/\Inv P ty Wg Ch Pay K T₀ Shun w₀ S₀ L₀ Anch AO d b (t++c):=by
 have x:WgLive ty Wg w':=⟨_,_,m⟩;have p:Ib (H.S 0) w w'=H.S 0:=by rw[R8 _ h.size,Hu]
 have T:Ak ty Wg Ch (H.S 0) (H.L 0) w w':=L0 h x;have A:=Zb1 (P:=P) (sl:=sl) (i:=0) l (by simpa using g);have v:0<gs.size:=(Za.1 l).1;have n:=e.step0 r (gs':=(gs.map (woken P a a' w')).setIfInBounds 0 a') i! (λk o=>e.Gl a a' w' 0 o o!) T U (h.block Ch e.cw);rw[Deaf_own,e.deaf0]at n;obtain⟨d,u,s⟩:=callerStep (sl:=sl) (tag:=tag) (sub:=sub) (X0:=X0) (f0:=f0) (a':=a') (by simp[v]) n (by rw[p];exact y) m C z B;exact⟨_,_,d,A,u,s⟩
def idleC (n:I' ty Wg Pay)(m:gs[0]?=some a)(h:Com P ty Wg Ch Pay K T₀ Shun w₀ S₀ L₀ j gs w t D E X H q d0 vals)(u:WgAt ty Wg w st sm)(x:Ye j D tag st sm)(s:tag=.ret->AcqAll K Wg T₀ j t)
 (f:za P true a w=.go a' w #[]) (o:CSit P ty Wg Ch Pay Anch AO (H.S 0) (H.L 0) tag sub j f' X0 d0 a' w) (v:f'<f0):
  ∃b c g,runT P (Yj gs w sl) 0=(.next b,c)/\Ja g (Ki P ty Wg K j D E X q tag sub X0 f0)/\Inv P ty Wg Ch Pay K T₀ Shun w₀ S₀ L₀ Anch AO g b (t++c):=
 bookC n m h f (.refl Wg w) u (FQ (p:=0) (K:=K) i! h.IK) o x (λe=>(s e).app λi r _ k=>I_.other k λy d=>by
  obtain⟨e,l,_⟩:=ZQ d;simp at l) (.inr ⟨rfl,.inr ⟨rfl,v⟩⟩)
def wD (u:I' ty Wg Pay)(o:gs[0]?=some a)(b:Com P ty Wg Ch Pay K T₀ Shun w₀ S₀ L₀ j gs w t D E X H q 0 vals)(B:WgAt ty Wg w st sm)(G:Ye j D tag st sm)(C:tag≠ .ret)
 {m:Fuel P ty Wg} (l:za P true a w=.go a' w' es) (d:LN (H.S 0) (H.L 0) w w' es)
 (z:CSit P ty Wg Ch Pay Anch AO (Ib (H.S 0) w w') (H.L 0) tag sub j 0 m 0 a' w') (F:Fuel.lt m X0):
  ∃c f g,runT P (Yj gs w sl) 0=(.next c,f)/\Ja g (Ki P ty Wg K j D E X q tag sub X0 f0)/\Inv P ty Wg Ch Pay K T₀ Shun w₀ S₀ L₀ Anch AO g c (t++f):=by
 have h:(0:Nat)<=j:=Zp _;have p:=b.OQ.wg 0 h;have U:KR Wg K H 0 w w' (ZK 0 a.frame.fn a.frame.place es):=Px d (b.OQ.low 0 h);have T:Ak ty Wg Ch (H.S 0) (H.L 0) w w':=Ak.gy d p b.IK;have A:=Zb1 (P:=P) (sl:=sl) (i:=0) o (by simpa using l);have y:0<gs.size:=(Za.1 o).1;have r:=b.step0 u (gs':=(gs.map (woken P a a' w')).setIfInBounds 0 a') i! (λk s=>b.Gl a a' w' 0 s o!) T U (d.still Ch b.TR (.inl (b.OT 0 h)));rw[Deaf_own,b.deaf0,ConcN.deafBehind_idle (λe n=>⟨(Lu (d.evs e n)).1,(Lu (d.evs e n)).2.1⟩)]at r;obtain⟨g,x,v⟩:=callerStep (sl:=sl) (tag:=tag) (sub:=sub) (X0:=X0) (f0:=f0) (a':=a') (by simp[y]) r z ((d.still Wg b.IK (.inl p)).trans B) G (λe=>absurd e C) (.inr ⟨rfl,.inl F⟩);exact⟨_,_,g,A,x,v⟩
def w1Step (l:I' ty Wg Pay)(k:gs[0]?=some a)(d:Com P ty Wg Ch Pay K T₀ Shun w₀ S₀ L₀ 2 gs w t D E X H q 1 vals)(i:WgAt ty Wg w st sm)(n:Ye 2 D .w1 st sm)(h:Goes P true (Ah ty Wg (H.S 0)) DC0 (AtW1 P ty Wg Anch AO (H.S 0)) m a w)(o:phi 2 (Vc 2 D) .w1<phi 2 (Vc 2 D) tag+sub\/(tag=.w1/\sub=0/\f0=m)):
  ∃c f r,runT P (Yj gs w sl) 0=(.next c,f)/\Ja r (Ki P ty Wg K 2 D E X q tag sub X0 f0)/\Inv P ty Wg Ch Pay K T₀ Shun w₀ S₀ L₀ Anch AO r c (t++f):=by
 have v:=ZdS 2 D;have s:phi 2 (Vc 2 D) .w1<=phi 2 (Vc 2 D) tag+sub:=by
  rcases o with h|⟨rfl,rfl,_⟩<;>omega
 rcases zT h with F|⟨m',rfl,C⟩
 .obtain⟨_,B⟩:=F w (Ah.refl w)
  obtain⟨u,rfl,rfl,_⟩:=n.open_inv trivial;obtain⟨a',b,y,x⟩:=B (Vc 2 D) o! (by simpa[pend]using i);by_cases e:Vc 2 D=0
  .obtain⟨g,j⟩:=y e
   refine bookC l k d b (.refl Wg w) i (FQ (p:=0) (K:=K) bk_rd d.IK) (.ke (X:=X0) j) ?_ i! (.inl (by simp only[phi]at s⊢;omega));have:((Vc 2 D+pend CTag.w1:Nat):Int)*KK=0:=by rw[e];simp[pend]
   rw[this];exact .fin trivial (allQuit_of u e)
  obtain⟨g,j⟩:=x e;exact bookC l k d b (.refl Wg w) i (FQ (p:=0) (K:=K) bk_rd d.IK) (.w2 (X:=X0) j) (n.reopen trivial trivial rfl (λG z=>by cases z;omega)) i! (.inl (by simp only[phi]at s⊢;omega))
 obtain⟨a',w',es,b,⟨rfl,rfl⟩,A⟩:=C w (Ah.refl w);refine bookC l k d b (.refl Wg _) i (FQ (p:=0) (K:=K) i! d.IK) (.w1 (X:=X0) A) n i! ?_;rcases o with h|⟨rfl,rfl,rfl⟩
 .exact .inl o!
 exact .inr ⟨rfl,.inr ⟨rfl,o!⟩⟩
def stepCaller (l:I' ty Wg Pay)(s9:∀S g w,AO S g w->∃m,Goes P true (Ah ty Wg S) DC0 (AtW1 P ty Wg Anch AO S) m g w)
 (k:gs[0]?=some a) (am:CSit P ty Wg Ch Pay Anch AO (H.S 0) (H.L 0) tag sub j f0 X0 d0 a w) (f:Com P ty Wg Ch Pay K T₀ Shun w₀ S₀ L₀ j gs w t D E X H q d0 vals) (d:WgAt ty Wg w st sm) (n:Ye j D tag st sm)
 (Jb:tag=.ret->AcqAll K Wg T₀ j t) (By:a.status=.running) (ai:¬(tag=.ret/\∀w₁,Ah ty Wg (H.S 0) w w₁->Anch (H.S 0) a w₁)):
  ∃F J GV,runT P (Yj gs w sl) 0=(.next F,J)/\Ja GV (Ki P ty Wg K j D E X q tag sub X0 f0)/\Inv P ty Wg Ch Pay K T₀ Shun w₀ S₀ L₀ Anch AO GV F (t++J):=by
 have bU:=ZdS j D;have V:=f.IK;have C:∀ {es:Array Z9} {fn:ZaQ} {pos:String} {w':Zb},w'=w.heap.size->(∀e∈es,Bk Wg e)->KR Wg K H 0 w w' (ZK 0 fn pos es):=λhs hb=>FQ (p:=0) (K:=K) hb (by rw[hs];exact V);have Ba:∀(a:Addr) (v:Zf),(w.setCell a v).heap.size=w.heap.size:=λa v=>by simp[Z8]
 cases am with
 |skd B h hw=>
  rename_i r;rcases h.at_ hw with⟨_,a',b,c,o⟩|⟨_,a',w',es,b,hG,h',hf⟩
  .exact bookC l k f b (.refl Wg w) d (C rfl bk_dis) (.sa1 (X:=h.fuel) B o) (n.reopen trivial trivial rfl i!) i! (.inl (by simp only[phi];omega))
  .exact wD l k f d n i! b hG (.skd B h' (Ah.refl _)) hf
 |sa1 B h=>
  rename_i r;rcases zT h with s|⟨m',rfl,z⟩
  .obtain⟨_,FJ⟩:=s w (Ah.refl w)
   obtain⟨M,rfl,rfl,_⟩:=n.open_inv trivial;obtain⟨a',b,h0,G⟩:=FJ (Vc (2 - (r+1)) D) o! (by simpa[pend]using d);have e:(((Vc (2 - (r+1)) D:Nat):Int)+1)*KK=((Vc (2 - (r+1)) D+pend (.sp r 3):Nat):Int)*KK:=by simp[pend]
   have hm:Ye (2 - (r+1)) D (.sp r 3) ((((Vc (2 - (r+1)) D:Nat):Int)+1)*KK) 0:=by
    rw[e];exact .opn trivial M i!
   by_cases e0:Vc (2 - (r+1)) D=0
   .obtain⟨c,o⟩:=h0 e0
    exact bookC l k f b (Y8 w (stA Wg) _) (d.setSt _) (C (Ba _ _) bk_rw) (.ssr (X:=X0) B o) hm i! (.inl (by simp only[phi];omega))
   obtain⟨c,o⟩:=G e0;exact bookC l k f b (Y8 w (stA Wg) _) (d.setSt _) (C (Ba _ _) bk_rw) (.ske (X:=X0) B o) hm i! (.inl (by simp only[phi];omega))
  .obtain⟨a',w',es,b,⟨rfl,rfl⟩,u⟩:=z w (Ah.refl w)
   exact idleC l k f d n i! b (.sa1 B u) o!
 |ssr B h=>
  rename_i r;rcases zT h with s|⟨m',rfl,z⟩
  .obtain⟨_,a',b,c,o⟩:=s w (Ah.refl w)
   exact bookC l k f b (.refl Wg w) d (Ip (p:=0) (K:=K) (by exact V) i! (.inr ⟨rfl,smA Wg,rfl,false,rfl⟩)) (.ske (X:=X0) B o) n i! (.inl o!)
  .obtain⟨a',w',es,b,⟨rfl,rfl⟩,u⟩:=z w (Ah.refl w)
   exact idleC l k f d n i! b (.ssr B u) o!
 |ske B h=>
  rcases zT h with s|⟨m',rfl,z⟩
  .obtain⟨_,a',b,c,o⟩:=s w (Ah.refl w)
   exact bookC l k f b (.refl Wg w) d (C rfl bk_en) (.sgo (X:=X0) B o) (n.reopen trivial trivial rfl i!) i! (.inl (by simp only[phi];omega))
  .obtain⟨a',w',es,b,⟨rfl,rfl⟩,u⟩:=z w (Ah.refl w)
   exact idleC l k f d n i! b (.ske B u) o!
 |sgo B h=>
  rename_i r;rcases zT h with s|⟨m',rfl,z⟩
  .obtain⟨_,a',A,Jv,Z,Y⟩:=s w (Ah.refl w)
   obtain⟨M,rfl,rfl,_⟩:=n.open_inv trivial;have W:=runT_crowd_spawn (P:=P) (sl:=sl) (i:=0) k (by simpa using Jv);have Fy:=f.pos;rw[f.size]at W;have B5:=f.spawn (a':=a') (x:= {g:=0,fn:=a.frame.fn,pos:=a.frame.place,act:=.go (K+(2 - (r+1)))}) (y:= {g:=K+(2 - (r+1)),fn:=A.frame.fn,pos:=a.frame.place,act:=.start}) ⟨rfl,rfl⟩ ⟨rfl,rfl⟩ Z;have eV:Vc (2 - (r+1)+1) (upd D (2 - (r+1)) ⟨7,0,0⟩)=Vc (2 - (r+1)) D+1:=by
    simp only[Vc,sumTo,upd_same];rw[sumTo_upd_out D _ cnt (Zj _)];rfl
   have eS:Ssum (2 - (r+1)+1) (upd D (2 - (r+1)) ⟨7,0,0⟩)=Ssum (2 - (r+1)) D+7:=by
    simp only[Ssum,sumTo,upd_same];rw[sumTo_upd_out D _ WD.stage (Zj _)]
   have eE:sumTo (2 - (r+1)+1) (upd E (2 - (r+1)) 1)=sumTo (2 - (r+1)) E+1:=by
    simp only[sumTo,upd_same];have:=sumTo_upd_out E 1 id (Zj (2 - (r+1)));have U:(sumTo (2 - (r+1)) λa=>id (upd E (2 - (r+1)) 1 a))=sumTo (2 - (r+1)) (upd E (2 - (r+1)) 1):=rfl;have e2:(sumTo (2 - (r+1)) λa=>id (E a))=sumTo (2 - (r+1)) E:=rfl;rw[U,e2]at this;rw[this]
   have rH:OpenSt (2 - (r+1)+1) (upd D (2 - (r+1)) ⟨7,0,0⟩):=λi hi=>by
    by_cases e:i=2 - (r+1)
    .subst e;rw[upd_same];simp
    rw[upd_ne D _ e];exact M i o!
   have N:((gs.setIfInBounds 0 a').push A)[0]?=some a':=by
    have D':=f.size;rw[Zd3 j!, <-Zx,ZV o!]
   have O:((H.set (2 - (r+1)+1) (H.S 0) (H.S 0)).set 0 (H.S 0) (H.S 0)).S 0=H.S 0:=(A6 _ _ _).1;have Q:((H.set (2 - (r+1)+1) (H.S 0) (H.S 0)).set 0 (H.S 0) (H.S 0)).L 0=H.S 0:=(A6 _ _ _).2;have T:∀Cl,pend Cl=0->((Vc (2 - (r+1)) D+pend (.sp r 2):Nat):Int)*KK=((Vc (2 - (r+1)+1) (upd D (2 - (r+1)) ⟨7,0,0⟩)+pend Cl:Nat):Int)*KK:=λCl hp=>by rw[eV,hp];simp[pend]
   have bc:((ZK 0 a.frame.fn a.frame.place #[]).push {g:=0,fn:=a.frame.fn,pos:=a.frame.place,act:=.go (K+(2 - (r+1)))}).push {g:=K+(2 - (r+1)),fn:=A.frame.fn,pos:=a.frame.place,act:=.start}= #[{g:=0,fn:=a.frame.fn,pos:=a.frame.place,act:=.go (K+(2 - (r+1)))}, {g:=K+(2 - (r+1)),fn:=A.frame.fn,pos:=a.frame.place,act:=.start}]:=by
    rw[Zb7];simp
   rw[bc]at W;have Xg:r=0\/r=1:=o!
   rcases Xg with rfl|rfl
   .refine⟨_,_,_,W,?_,_,w,sl,2,_,_,_,_,q,0,vals,.kd,0,0,Be.fuel Y,a',_,_,rfl,N,?_,B5,d,?_,i!,rfl⟩
    .have bV:Vc 2 (upd D 1 ⟨7,0,0⟩)=Vc 1 D+1:=eV
     have an:Ssum 2 (upd D 1 ⟨7,0,0⟩)=Ssum 1 D+7:=eS;have ap:sumTo 2 (upd E 1 1)=sumTo 1 E+1:=eE;refine mu1 ?_;show phi 2 _ .kd+0+Ssum 2 (upd D 1 ⟨7,0,0⟩)+sumTo 2 (upd E 1 1)<phi 2 _ (.sp 0 2)+0+Ssum 1 D+sumTo 1 E;simp only[phi];omega
    .rw[O,Q]
     exact .kd Y (Ah.refl w)
    rw[T .kd rfl];exact .opn trivial rH i!
   refine⟨_,_,_,W,?_,_,w,sl,1,_,_,_,_,q,0,vals,.sp 0 5,1,0,Be.fuel Y,a',_,_,rfl,N,?_,B5,d,?_,i!,rfl⟩
   .have an:Ssum 1 (upd D 0 ⟨7,0,0⟩)=Ssum 0 D+7:=eS
    have ap:sumTo 1 (upd E 0 1)=sumTo 0 E+1:=eE;refine mu1 ?_;show phi 2 _ (.sp 0 5)+1+Ssum 1 (upd D 0 ⟨7,0,0⟩)+sumTo 1 (upd E 0 1)<phi 2 _ (.sp 1 2)+0+Ssum 0 D+sumTo 0 E;simp only[phi];omega
   .rw[O,Q]
    exact .skd (r:=0) o! Y (Ah.refl w)
   rw[T (.sp 0 5) rfl];exact .opn trivial rH i!
  .obtain⟨a',w',es,b,⟨rfl,rfl⟩,u⟩:=z w (Ah.refl w)
   exact idleC l k f d n i! b (.sgo B u) o!
 |kd h hw=>
  rcases h.at_ hw with⟨_,a',b,c,o⟩|⟨_,a',w',es,b,hG,h',hf⟩
  .exact bookC l k f b (.refl Wg w) d (C rfl bk_dis) (.anch (X:=h.fuel) o) (n.reopen trivial trivial rfl i!) i! (.inl (by simp only[phi];omega))
  .exact wD l k f d n i! b hG (.kd h' (Ah.refl _)) hf
 |anch h=>
  rcases zT h with s|⟨m',rfl,z⟩
  .obtain⟨c,o⟩:=s9 _ a w (s w (Ah.refl w))
   exact w1Step l k f d (n.reopen trivial trivial rfl i!) o (.inl (by simp only[phi];omega))
  .obtain⟨a',w',es,b,⟨rfl,rfl⟩,u⟩:=z w (Ah.refl w)
   exact idleC l k f d n i! b (.anch u) o!
 |w1 h=>exact w1Step l k f d n h (.inr ⟨rfl,rfl,rfl⟩)
 |w2 h=>
  rename_i vs;rcases zT h with s|⟨m',rfl,z⟩
  .obtain⟨_,FJ⟩:=s w (Ah.refl w)
   obtain⟨M,rfl,rfl,nj⟩:=n.open_inv trivial;obtain⟨bv,G⟩:=nj vs rfl;obtain⟨ba,bi⟩:=FJ (Vc 2 D) o! (by simpa[pend]using d);by_cases e:Vc 2 D=vs
   .obtain⟨a',b,c,o⟩:=ba e
    exact bookC l k f b (Y8 w (stA Wg) _) (d.setSt _) (C (Ba _ _) bk_rw) (.sw (X:=X0) o) (.reg trivial M o!) i! (.inl (by simp only[phi];omega))
   obtain⟨a',b,c,o⟩:=bi e;exact bookC l k f b (.refl Wg w) d (C rfl bk_rd) (.anch (X:=X0) o) (n.reopen trivial trivial rfl i!) i! (.inl (by simp only[phi];omega))
  .obtain⟨a',w',es,b,⟨rfl,rfl⟩,u⟩:=z w (Ah.refl w)
   exact idleC l k f d n i! b (.w2 u) o!
 |sw h=>
  rcases zT h with s|⟨m',rfl,z⟩
  .obtain⟨_,a',b,c,o⟩:=s w (Ah.refl w)
   exact bookC l k f b (.refl Wg w) d (Ip (p:=0) (K:=K) (by exact V) i! (.inr ⟨rfl,smA Wg,rfl,true,rfl⟩)) (.w3 (X:=X0) o) n i! (.inl o!)
  .obtain⟨a',w',es,b,⟨rfl,rfl⟩,u⟩:=z w (Ah.refl w)
   exact idleC l k f d n i! b (.sw u) o!
 |w3 h=>
  rcases zT h with s|⟨m',rfl,z⟩
  .obtain⟨_,b8,jH,be⟩:=s w (Ah.refl w)
   cases n with
   |opn G _ _=>exact G.elim
   |reg G R h3=>exact bookC l k f (jH ⟨_,d⟩) (.refl Wg w) d (C rfl i!) (.blk (X:=X0) s) (.reg trivial R h3) i! (.inr ⟨rfl,.inr ⟨rfl,o!⟩⟩)
   |last L G R h3 h4=>exact bookC l k f (jH ⟨_,d⟩) (.refl Wg w) d (C rfl i!) (.blk (X:=X0) s) (.last L trivial R h3 h4) i! (.inr ⟨rfl,.inr ⟨rfl,o!⟩⟩)
   |sema R=>
    obtain⟨a',b,c,o⟩:=be d;exact bookC l k f b (Y8 w (smA Wg) _) (d.setSm 0) (C (Ba _ _) bk_sem) (.w4 (X:=X0) o) (.fin trivial R) i! (.inl (by simp only[phi];omega))
   |fin G _=>exact G.elim
  .obtain⟨a',w',es,b,⟨rfl,rfl⟩,u⟩:=z w (Ah.refl w)
   exact idleC l k f d n i! b (.w3 u) o!
 |blk h=>simp at By
 |w4 h=>
  rcases zT h with s|⟨m',rfl,z⟩
  .obtain⟨_,hx⟩:=s w (Ah.refl w)
   obtain⟨I,rfl,rfl⟩:=n.fin_inv trivial;obtain⟨a',b,c,o⟩:=hx d;exact bookC l k f b (.refl Wg w) d (C rfl bk_rd) (.ke (X:=X0) o) (.fin trivial I) i! (.inl (by simp only[phi];omega))
  .obtain⟨a',w',es,b,⟨rfl,rfl⟩,u⟩:=z w (Ah.refl w)
   exact idleC l k f d n i! b (.w4 u) o!
 |ke h=>
  rcases zT h with s|⟨m',rfl,z⟩
  .obtain⟨_,a',b,c,o⟩:=s w (Ah.refl w)
   obtain⟨I,rfl,rfl⟩:=n.fin_inv trivial;exact bookC l k f b (.refl Wg w) d (C rfl bk_en) (.acq (X:=X0) o) (.fin trivial I) i! (.inl (by simp only[phi];omega))
  .obtain⟨a',w',es,b,⟨rfl,rfl⟩,u⟩:=z w (Ah.refl w)
   exact idleC l k f d n i! b (.ke u) o!
 |acq h=>
  rcases zT h with s|⟨m',rfl,z⟩
  .obtain⟨_,a',b,c,o⟩:=s w (Ah.refl w)
   obtain⟨I,rfl,rfl⟩:=n.fin_inv trivial;refine bookC l k f b (.refl Wg w) d (Ip (p:=0) (K:=K) (by exact V) i! (.inl rfl)) (.ret (X:=X0) o) (.fin trivial I) (λ_=>?_) (.inl (by simp only[phi];omega));have U:ZK 0 a.frame.fn a.frame.place #[mk (.acquire (stA Wg))]= #[{g:=0,fn:=a.frame.fn,pos:=a.frame.place,act:=.mark (.acquire (stA Wg))}]:=by rw[Zb7];simp[Zdq]
   have hy:(t++ #[({g:=0,fn:=a.frame.fn,pos:=a.frame.place,act:=.mark (.acquire (stA Wg))}:MemOp)])[t.size]?=some {g:=0,fn:=a.frame.fn,pos:=a.frame.place,act:=.mark (.acquire (stA Wg))}:=i!
   have Fy:=f.pos;refine⟨t.size,by rw[U,act?_of hy],by rw[U];simp[Zal],by rw[U];exact⟨0,by simp[Zal],by rw[deaf_old (Zj _)];exact f.deaf0⟩,λi hi=>?_⟩;obtain⟨r,B⟩:=f.rel i hi (by rw[I i hi];omega);refine⟨r,I_.other B λop ac=>?_,lt_of_act? B.1.act⟩;obtain⟨e,_,rfl⟩:=ZQ ac;show 0≠K+i;omega
  .obtain⟨a',w',es,b,⟨rfl,rfl⟩,u⟩:=z w (Ah.refl w)
   exact idleC l k f d n i! b (.acq u) o!
 |ret h=>
  rcases zT h with s|⟨m',rfl,z⟩
  .exact absurd ⟨rfl,s⟩ ai
  obtain⟨a',w',es,b,⟨rfl,rfl⟩,u⟩:=z w (Ah.refl w);exact idleC l k f d n Jb b (.ret u) o!
end
end Go.Pair
namespace Go.Pair
open Go Go.Conc Go.FA
open Go.ConcN (PermW RelBy WgLive CTag phi pend isOpen isW3 isFin OpenSt AllQuit WD Vc Ssum Fsum cnt sumTo sumTo_upd upd upd_same upd_ne exists_counted)
open Go.ConcR (KK WgAt stA smA rd wr mk DC0 Bk g_of_ofEvents)
section
variable {P:Zo}{ty:Zs}{Wg Ch:Nat}{Pay:Nat->Gk}{K T₀:Nat}{Shun:Loc->Prop}{w₀:Zb}{S₀ L₀:Nat->Prop}{Anch AO:Cd}
 {j:Nat} {gs:Array Zi} {w:Zb} {t:YZ} {D:Nat->WD} {E:Nat->Nat} {X:Nat->Fuel P ty Wg} {H:JJ} {q:Nat->Nat} {d0:Nat} {vals:Nat->Zf} {tag:CTag} {sub f0:Nat} {X0:Fuel P ty Wg} {a:Zi} {sl:Option (Nat×Nat)} {st sm:Int}
variable {S L S' L':Nat->Prop}
variable {p b i k s' e' m' dd' d KP f' m n:Nat}
variable {g g' a':Zi}
def WSit.running_of {b:Gk}{s e:Nat}{X:Fuel P ty Wg}(h:WSit P ty Wg Ch b S L s e m d X g w)(a:s≠1):g.status=.running:=
 h.status.resolve_right λx=>a x.2
def someone_runs (o:∀S g w,AO S g w->g.status=.running)(m:∀S g w,Anch S g w->g.status=.running)(l:gs[0]?=some a)(d:CSit P ty Wg Ch Pay Anch AO (H.S 0) (H.L 0) tag sub j f0 X0 d0 a w)(h:Com P ty Wg Ch Pay K T₀ Shun w₀ S₀ L₀ j gs w t D E X H q d0 vals)(p:Ye j D tag st sm):
  ∃(i:Nat) (g:Zi),gs[i]?=some g/\g.status=.running:=by
 rcases d.status o m with⟨b,_⟩|⟨_,rfl⟩
 .exact⟨0,a,l,b⟩
 cases p with
 |opn e _ _=>exact e.elim
 |reg _ _ f=>
  obtain⟨i,k,r⟩:=exists_counted f;obtain⟨g,c,b⟩:=h.wk i k;exact⟨K+i,g,c,b.running_of o!⟩
 |last L _ n f _=>
  obtain⟨g,c,b⟩:=h.wk L n;exact⟨K+L,g,c,b.running_of o!⟩
 |fin e _=>exact e.elim
def all_awake (o:∀S g w,AO S g w->g.status=.running)(n:∀S g w,Anch S g w->g.status=.running)(m:gs[0]?=some a)(d:CSit P ty Wg Ch Pay Anch AO (H.S 0) (H.L 0) tag sub j f0 X0 d0 a w)(e:Com P ty Wg Ch Pay K T₀ Shun w₀ S₀ L₀ j gs w t D E X H q d0 vals):∀g∈gs,awake g:=by
 intro g l;obtain⟨i,b⟩:=Array.mem_iff_getElem?.1 l;have s:=(Za.1 b).1;have r:=e.size;rcases zQ i with rfl|k
 .rw[m]at b;cases b
  intro p;rcases d.status o n with⟨c,_⟩|⟨c,_⟩<;>rw[c]<;>simp
 rcases Zar i K with f|f
 .exact awake_of ((e.old i g k f b).status.elim .inl λx=>.inr (.inr x))
 obtain⟨g',h,c⟩:=e.wk (i - K) o!;rw[show K+(i - K)=i by omega,b]at h;cases h;exact awake_of (c.status.elim .inl λx=>.inr (.inr x.1))
def jI (L:I' ty Wg Pay)(A:∀S g w,AO S g w->g.status=.running)(z:∀S g w,Anch S g w->g.status=.running)
 (s9:∀S g w,AO S g w->∃m,Goes P true (Ah ty Wg S) DC0 (AtW1 P ty Wg Anch AO S) m g w) (V:Mu P ty Wg) (m:Machine) (t:YZ) (h:Inv P ty Wg Ch Pay K T₀ Shun w₀ S₀ L₀ Anch AO V m t):
  Fin P ty Wg Ch Pay K T₀ Shun w₀ S₀ L₀ Anch m t\/∃m' u Y,stepT P m=(.next m',u)/\Ja Y V/\Inv P ty Wg Ch Pay K T₀ Shun w₀ S₀ L₀ Anch AO Y m' (t++u):=by
 obtain⟨gs,w,sl,j,D,E,X,H,q,d0,vals,tag,sub,f0,X0,a,st,sm,rfl,l,c,n,Z,x,B,rfl⟩:=h;by_cases W:tag=.ret/\∀b,Ah ty Wg (H.S 0) w b->Anch (H.S 0) a b
 .obtain⟨rfl,B_⟩:=W
  obtain⟨p,rfl,rfl⟩:=x.fin_inv trivial;have hj:j=2/\d0=0:=by cases c;exact⟨rfl,rfl⟩
  obtain⟨rfl,rfl⟩:=hj;exact .inl ⟨gs,w,sl,D,E,X,H,q,vals,a,rfl,l,B_ w (Ah.refl w),n,Z,p,B rfl⟩
 refine .inr ?_;obtain⟨i,g,d,U,f,s,Bu⟩:=crowd_pick (P:=P) (w:=w) (sl:=sl) (all_awake A z l c n) (someone_runs A z l c n x);rw[Bu];have T:=c.rely (Ah.at w d);have C:=n.at L d;have R:WgAt ty Wg (w.at d) st sm:=Z;have Fy:=n.pos;rcases zQ i with rfl|v
 .rw[l]at f;cases f
  exact stepCaller (sl:=U) L s9 l T C R x B s λ⟨N,M⟩=>W ⟨N,λb o=>M b ⟨⟨o.base.same,o.base.size,o.base.os⟩,o.live⟩⟩
 rcases Zar i K with y|y
 ·
  have p:=n.old i g v y f;have Az:i<gs.size:=(Za.1 f).1;have I:(i==0)=false:=j!
  cases F:q i with
  |zero=>rw[F]at p;rw[p.1]at s;cases s
  |succ k=>
   rw[F]at p;rcases p with⟨J,_⟩|⟨_,g',es,hm,nN,P_⟩
   .rw[J]at s;cases s
   have FB:=Zb1 (P:=P) (sl:=U) (i:=i) f (by rw[I];exact nN (w.at d));have hc:=C.aeP (k:=i) (n':=k) v y (gs':=(gs.map (woken P g g' (w.at d))).setIfInBounds i g') (g':=g') i! (Zbo _ _ _ Az) (λk' N M=>C.Gl g g' (w.at d) i N M) (fn:=g.frame.fn) (pos:=g.frame.place) hm P_;obtain⟨Cl,f',Q,O,_⟩:=T.wokenBy A z (Ah.refl _) g g';refine⟨_,_,_,FB,?_,_,w.at d,U,j,D,E,X,H,upd q i k,d0,vals,Cl,sub,f',X0,_,st,sm,rfl,by rw[Zcb _ _ _ _ o!,l];rfl,Q,hc,R,x.retag O,λe=>?_,rfl⟩
   .unfold Ki
    rw[ConcN.phi_retag 2 _ O];have:=sumTo_upd q k id y;simp only[F,id]at this;have e1:(sumTo K λa=>upd q i k a)=sumTo K (upd q i k):=rfl;have e2:(sumTo K λa=>q a)=sumTo K q:=rfl;rw[e1,e2]at this;exact mu4 o!
   rcases O with rfl|⟨_,rfl⟩
   .exact(B e).app λi' r DN o=>I_.other o λop G=>by
     obtain⟨e,_,rfl⟩:=ZQ G;show i≠K+i';omega
   cases e
 have Az:=(Za.1 f).1;have D':=n.size;have e:i=K+(i - K):=o!
 rw[e]at f⊢;exact stepWorker L A z l T C R x B o! f s
def jJ (l:I' ty Wg Pay)(s:∀S g w,AO S g w->g.status=.running)(p:∀S g w,Anch S g w->g.status=.running)
 (f:∀S g w,AO S g w->∃m,Goes P true (Ah ty Wg S) DC0 (AtW1 P ty Wg Anch AO S) m g w) (b:Mu P ty Wg):∀(m:Machine) (t:YZ),Inv P ty Wg Ch Pay K T₀ Shun w₀ S₀ L₀ Anch AO b m t->
  ∃N m' e,ZaE P N m t=(.next m',e)/\Fin P ty Wg Ch Pay K T₀ Shun w₀ S₀ L₀ Anch m' e:=by
 induction b using(al9 P ty Wg).induction with
 |_ b i=>
  intro m t o;rcases jI l s p f b m t o with h|⟨m',c,v,j,k,d⟩
  .exact⟨0,m,t,rfl,h⟩
  obtain⟨n,a,u,r,q⟩:=i v k m' (t++c) d;exact⟨n+1,a,u,by rw[runNT_succ_next j];exact r,q⟩
def av (m:Com P ty Wg Ch Pay K T₀ Shun w₀ S₀ L₀ 2 gs w t D E X H q 0 vals)(R:AcqAll K Wg T₀ 2 t):Past (λl=>Shun l\/Mw Wg l) w t:=by
 obtain⟨n,N,C,M,B⟩:=R;obtain⟨z,I,o⟩:=zc.1 C;have d:∀i,i<2->∀k,t.g? k=some (K+i)->(∃r,I_ Wg T₀ t (K+i) r/\r<n/\k<=r)->Zbw t k n:=by
  intro i _ k f ⟨r,b,a,J⟩;have e:Zbw t r n:=.single (.inr ⟨.marked a (.inr b.1.act) N (λk f _=>m.norel k (Nat.le_of_lt (Nat.lt_of_le_of_lt b.2.1 f))),b.1.heard,M⟩);rcases Zar k r with u|L
  .exact .trans (.single (.inl ⟨u,K+i,f,b.1.g⟩)) e
  obtain rfl:k=r:=o!
  exact e
 refine⟨m.ti.nr,λi x v y=>?_,λi g j S A=>?_,m.deaf0,m.ti.seen⟩
 .rcases m.ti.kn i x v y with k|⟨k,G⟩|⟨p,F,O,j⟩
  .exact .inl k
  .exact .inr ⟨.inl k,G⟩
  obtain⟨c,rfl⟩:∃c,p=c+1:=⟨p - 1,o!⟩;obtain⟨r,b,a⟩:=B c o!;rcases b.2.2 i x v y j with f|⟨f,Q⟩
  .exact .inl ⟨n,z,I,o,.inr (d c o! i j ⟨r,b,a,f⟩)⟩
  exact .inr ⟨.inr f,Q⟩
 rcases m.ti.ov i g j S A with h|⟨p,F,O,rfl⟩
 .exact h
 obtain⟨c,rfl⟩:∃c,p=c+1:=⟨p - 1,o!⟩;obtain⟨r,b,a⟩:=B c o!;have s:i<=r:=Zdl λu=>b.1.after i u j A;exact⟨n,C,d c o! i j ⟨r,b,a,s⟩⟩
def Sc (a:Com P ty Wg Ch Pay K T₀ Shun w₀ S₀ L₀ 2 gs w t D E X H q 0 vals)(n:AllQuit 2 D):∃m,Leavers P t gs m:=by
 refine⟨λi=>if i<K then q i else(D (i - K)).fuel,λi g b c=>?_,λi b=>a.above i (by rw[<-a.size];exact b)⟩;have r:=(Za.1 c).1;have p:=a.size;by_cases d:i<K
 .rw[if_pos d]
  exact a.old i g b d c
 rw[if_neg d];obtain⟨g',j,k⟩:=a.wk (i - K) o!;have l:=a.deafW (i - K) o!;rw[show K+(i - K)=i by omega]at j l;rw[c]at j;cases j;rw[l];have o:=n (i - K) o!;generalize (D (i - K)).fuel=f at*;generalize (D (i - K)).deaf=dd at*;generalize E (i - K)=e at*;generalize X (i - K)=x at*;rw[o]at k;cases k with
 |quit h=>exact h
end
section
variable {P:Zo}{ty:Zs}{Wg Ch:Nat}{Pay:Nat->Gk}{Shun:Loc->Prop}{Anch AO:Cd}
structure Joined (P:Zo)(Ch Wg:Nat)(Pay:Nat->Gk)(Shun:Loc->Prop)(Anch:Cd)(S L:Nat->Prop)(w:Zb)(gs':Array Zi)(w':Zb)(t':YZ):Prop where
 main:∃a' S',gs'[0]?=some a'/\Anch S' a' w'/\∀b,S' b->(S b\/w<=b)/\b<w'.heap.size/\b≠Wg/\b≠Ch
 old:∃q',Leavers P t' gs' q'
 past:Past (λl=>Shun l\/Mw Wg l) w' t'
 chan:∃(vals:Nat->Zf) (ord:List Nat) (tm:Bool),(ord=[0,1]\/ord=[1,0])/\w'.heap[Ch]?=some (.chan 2 (ord.map vals).toArray false 2 0 tm)/\
  ∀i,i<2->∃T,Pay i T (vals i) w'/\∀b,T b->(S b\/w<=b)/\b<w'.heap.size/\b≠Wg/\b≠Ch
 still:∀b,b<w.heap.size->b≠Wg->b≠Ch->(¬S b\/L b)->w'.heap[b]?=w.heap[b]?
 size:w<=w'.heap.size
 os:w'.os=w.os
 tape:w'.tape=w.tape
 output:w'.output=w.output
variable {gs' gs:Array Zi}
variable {w w' w₁ w₂ w₀:Zb}
variable {u t:YZ}
variable {S L T₀ S' L':Nat->Prop}
def dB (hP:I' ty Wg Pay)(R9:∀S g w,AO S g w->g.status=.running)(hA:∀S g w,Anch S g w->g.status=.running)
 (s9:∀S g w,AO S g w->∃m,Goes P true (Ah ty Wg S) DC0 (AtW1 P ty Wg Anch AO S) m g w)
 {a:Zi} {sl:Option (Nat×Nat)} {q:Nat->Nat} {tm:Bool} (v:gs[0]?=some a) (hL:Leavers P t gs q) (Z:Past Shun w t) (O:G0 Shun S w) (M:GZ Shun w)
 (J:¬S Wg) (Q:¬S Ch) (W:Ch≠Wg) (Dk:WgAt ty Wg w 0 0) (lS:w.heap[Ch]?=some (.chan 2 #[] false 0 0 tm)) (T:∀l,Mw Wg l->¬Shun l) (jD:∀b,L b->b<w.heap.size)
 (tc:Be P true ty Wg L (AtKdS P ty Wg Ch (Pay 0) (wj P ty Wg Ch Pay 2 AO 1)) S a w):
  ∃N gs' w' U C,ZaE P N (Yj gs w sl) t=(.next (Yj gs' w' U),C)/\Joined P Ch Wg Pay Shun Anch S L w gs' w' C:=by
 have Az:0<gs.size:=(Za.1 v).1;have hw:Wg<w:=(Za.1 Dk).1;have hc:Ch<w:=(Za.1 lS).1;have z:∀p:Nat,p<=0->p=0:=λp h=>o!
 let H:JJ:=⟨λp=>if p=0 then S else λ_=>False,λp=>if p=0 then L else λ_=>False⟩
 have ac:H.S 0=S:=rfl;have ai:H.L 0=L:=rfl;have AA:Com P ty Wg Ch Pay gs.size t.size Shun w S L 0 gs w t (λ_=>⟨0,0,0⟩) (λ_=>0) (λ_=>Fuel.none P ty Wg) H q 0 (λ_=>Ze):=by
  refine⟨rfl,Az,λi u=>o!,λi g d h2 R=>hL.old i g d R,TI.sY Z (λb f=>?_) T,⟨λp p' c lR W=>absurd ((z p c).trans (z p' lR).symm) W,λp c=>by rw[z p c];exact J,λp c b f=>?_⟩,λk hk hx=>absurd (lt_of_act? hx) o!,Zj _,Z.hears,λi u=>o!,hL.above,λi u=>o!,hw,hc,W,
   λp c=>by rw[z p c];exact Q,⟨[],tm,List.nodup_nil,λi=>i!,lS⟩,λi u=>o!,λb _ _ _ _=>rfl,Zj _,rfl,rfl,rfl,λp c b f=>?_,λp c b F f _=>?_,jD,λi u=>o!⟩
  .refine⟨(O b f).1,λl F hs=>?_⟩
   obtain⟨x,rfl,_⟩:=M l hs;simp only[blk,ZJ]at F;exact(O b f).2 x F hs
  .rw[z p c]at f
   exact(O b f).1
  .rw[z p c]at f
   exact .inl f
  rw[z p c];exact F
 have AM:Ye 0 (λ_=>(⟨0,0,0⟩:WD)) (.sp 1 5) 0 0:=by
  have:=ConcN.Mode.opn (j:=0) (D:=λ_=>(⟨0,0,0⟩:WD)) (tag:=.sp 1 5) trivial (λi u=>o!) (λvs e=>by cases e);simpa[Vc,sumTo,pend]using this
 obtain⟨N,m',C,hr,gs',w',U,D,E,X,V,q',A,a',rfl,I,B_,n,_,hq,Jb⟩:=jJ (K:=gs.size) (T₀:=t.size) (Shun:=Shun) (w₀:=w) (S₀:=S) (L₀:=L) hP R9 hA s9 _ (Yj gs w sl) t
  ⟨gs,w,sl,0,_,_,_,H,q,0,_,.sp 1 5,1,0,tc.fuel,a,0,0,rfl,v,.skd (r:=1) o! tc (Ah.refl w),AA,Dk,AM,i!,rfl⟩
 have Y:∀p,p<=2->∀b,V.S p b->(S b\/w<=b)/\b<w'.heap.size/\b≠Wg/\b≠Ch:=λp c b f=>⟨n.ER p c b f,n.OQ.low p c b f,λe=>n.OQ.wg p c (e▸f),λe=>n.OT p c (e▸f)⟩;refine⟨N,gs',w',U,C,hr,⟨a',V.S 0,I,B_,Y 0 o!⟩,Sc n hq,av n Jb,?_,λb d h2 R h4=>n.dn b d h2 R h4,n.grown,n.os,n.tape,n.output⟩;have he:∀i,i<2->E i=0:=λi u=>n.e01 i u (by rw[hq i u];omega);obtain⟨o,G,rJ,nF,wA⟩:=n.ch;have oh:∀i,i∈o↔i<2:=λi=>(nF i).trans ⟨And.left,λh=>⟨h,he i h⟩⟩;have jK:o=[0,1]\/o=[1,0]:=by
  match o,rJ,oh with
  | [],_,s=>exact absurd ((s 0).2 o!) i!
  | [x],_,s=>
   have v:=(s 0).2 o!;have d:=(s 1).2 o!;simp at v d;omega
  | [x,y],hn,s=>
   have v:=(s 0).2 o!;have d:=(s 1).2 o!;simp at v d;rcases v with v|v
   .rcases d with d|d
    .omega
    exact .inl (by rw[<-v, <-d])
   .rcases d with d|d
    .exact .inr (by rw[<-v, <-d])
    .omega
  |x::y::zz::l,hn,s=>
   exfalso;have hx:=(s x).1 i!;have hy:=(s y).1 i!;have hz:=(s zz).1 i!;simp at hn;omega
 have B:o.length=2:=by rcases jK with rfl|rfl<;>rfl
 rw[B]at wA;exact⟨A,o,G,jK,wA,λi u=>⟨V.S (i+1),n.pay i u (he i u),Y (i+1) o!⟩⟩
end
end Go.Pair
namespace Go.Pair
open Go Go.Conc Go.FA Go.RowKit Go.Conc.Lib Go.ConcR.Gen Go.ConcN.Gen
open Go.ConcN (WgLive)
open Go.ConcR (KK wgBlock WgAt stA smA rd wr mk DC0)
variable {ty:Zs}
variable {p b i j k s' e' m' dd' d KP f' m Wg n:Nat}
variable {S L T₀ S' L':Nat->Prop}
variable {w w' w₁ w₂ w₀:Zb}
def Ag (h:WgLive ty Wg w)(r:Ah ty Wg S w w₁):WgLive ty Wg w₁:=r.live h
def Sd {P:Zo}:∀ {n d:Nat} {g:Zi},ZcA P n d g->ZcA P (n+1) d g
 |0,_,_,h=>.inl h
 |_+1,_,_,h=>h.imp id λ⟨a,g',es,c,e,b⟩=>⟨a,g',es,c,e,Sd b⟩
variable {P:Zo}
variable {g g' a':Zi}
def Nw (h:ZcA P n d g)(b:n<=m):ZcA P m d g:=by
 induction b with
 |refl=>exact h
 |step _ a=>exact Sd a
section
variable {L:WgLink}
def te {P:Zo}(H:WgLib P L){Wg:Nat}{S:Nat->Prop}{b₀:ZM}{p:Act}{k:Array Oper}{o:Nat}{q:List Nat}{m:List Item}{cs:List ZM}{qt:Nat}
  (i:ZcA P qt 0 (G (b₀.at (p.put ((k[o]?).bind (·.dst)) (.tuple #[])) (.inRegion k q::m)) cs)) (w:Zb) (a:WgLive L.tWg Wg w):
  Goes P false (Ah L.tWg Wg S) DC0 (AtR0 P L.tWg Wg S) 40 (G ((base L.add).at ⟨#[.pointer Wg,.int .i64 (-1),Ze,Ze,Ze,Ze,Ze,Ze,Ze,Ze,Ze,Ze,Ze,Ze,Ze,Ze,Ze,Ze,Ze,Ze,Ze,Ze,Ze,Ze,Ze,Ze,Ze,Ze,Ze,Ze,Ze,Ze,Ze,Ze,Ze,Ze,Ze,Ze,Ze,Ze,Ze,Ze,Ze,Ze,Ze,Ze,Ze,Ze,Ze,Ze,Ze,Ze,Ze,Ze,Ze,Ze,Ze,Ze,Ze,Ze,Ze,Ze,Ze,Ze,Ze,Ze,Ze,Ze,Ze,Ze,Ze,Ze,Ze,Ze,Ze,Ze,Ze,Ze,Ze,Ze,Ze,Ze,Ze,Ze,Ze,Ze,Ze,Ze,Ze,Ze,Ze,Ze,Ze,Ze,Ze,Ze,Ze,Ze,Ze,Ze,Ze,Ze,Ze,Ze,Ze,Ze,Ze,Ze,Ze,Ze,Ze,Ze,Ze,Ze,Ze,Ze,Ze],[]⟩ [.code (body_add L)]) (b₀.at p (.inRegion k (o::q)::m)::cs)) w:=by
 lib_facts
 simp only[body_add,addFn,Zw]
 repeat (first|u_c Zn Ag a|u_cond true Ag a|u_c Zg Ag a|u_reg Ag a|u_op Ag a)
 u_conv H.underlying_tWgP H.room_tWg (WgLive.cell0 a).choose_spec Ag a
 refine ZT (λw₁ f=>?_);replace a:=Ag a f;clear f;refine⟨rfl,_,ZbN .releaseMerge i! rfl rfl n! rfl H.f_relMerge (x_relMerge_n L) (x_relMerge_b L) (x_relMerge_x L) (x_relMerge_f L) (by simp[ZbM,stA]),10,?_⟩
 walk_nrm
 repeat (first|u_c Zn Ag a|u_c Zg Ag a|u_reg Ag a)
 refine ZT (λw₁ f=>?_);replace a:=Ag a f;clear f;refine⟨rfl,_,Zb6 .disable i! rfl rfl n! rfl H.f_disable (x_disable_n L) (x_disable_b L) (x_disable_x L) (x_disable_f L),60,?_⟩
 walk_nrm
 repeat (first|u_c Zn Ag a|u_c Zg Ag a|u_c ZU Ag a|u_cond false Ag a|u_reg Ag a|u_op Ag a|u_defer Ag a|u_bub Ag a|u_call H.f_uAdd (nm_uAdd L) uAddFn Ag a)
 refine ZT (λw₁ f=>?_);clear f a;refine⟨rfl,λv l u K b=>?_⟩;have B:IntKind.u64.wrap (KK+18446744069414584320)=0:=d!
 have A:IntKind.u64.wrap (KK+1+18446744069414584320)=1:=d!
 rcases zQ v with rfl|x<;>(obtain rfl|rfl:l=0\/l=1:=o!)
 .replace b:WgAt L.tWg Wg w₁ KK 0:=by simpa using b
  have z:((0:Nat):Int)*KK+((0:Nat):Int)=0:=i!
  rw[z];refine⟨_,(Zap rfl rfl n! rfl H.f_addU64 (x_addU64_n L) (x_addU64_b L) (x_addU64_x L) .u64 (x_addU64_f L) rfl rfl b.cellSt (b.thaw 0)).trans (by rw[B];rfl),λe=>absurd e.2 d!,λ_=>⟨qt+120,?_⟩⟩;clear b
  walk_nrm
  q_val (.int .u64 0)
  q_c Zg
  q_c z8
  q_leave1 H.f_uAdd
  q_val (.int .u64 0)
  q_c Zg
  (repeat q_c Zn)
  q_reg
  q_val (.int .u64 0)
  q_val (.int .u64 0)
  q_val (.bool false)
  q_val (.bool false)
  q_skip
  q_skip
  q_val (.bool false)
  q_c Zg
  q_cond false
  q_c ZU
  (repeat q_c Zn)
  q_reg
  q_val (.int .u64 0)
  q_val (.int .u64 0)
  q_val (.int .i32 0)
  q_val (.int .i32 0)
  q_c Zg
  (repeat q_c Zn)
  q_reg
  q_val (.int .u64 0)
  q_val (.int .u64 0)
  q_val (.int .u32 0)
  q_val (.int .u32 0)
  q_c Zg
  (repeat q_c Zn)
  q_reg
  q_val (.bool true)
  q_val (.int .i64 (-1))
  q_val (.bool false)
  q_val (.bool false)
  q_val (.bool false)
  q_skip
  q_skip
  q_skip
  q_skip
  q_val (.bool false)
  q_c Zg
  q_cond false
  q_c ZU
  (repeat q_c Zn)
  q_reg
  q_val (.int .i32 0)
  q_val (.bool false)
  q_c Zg
  q_cond false
  q_c ZU
  (repeat q_c Zn)
  q_reg
  q_val (.int .u32 0)
  q_val (.bool false)
  q_val (.bool false)
  q_skip
  q_skip
  q_val (.bool false)
  q_val (.bool false)
  q_skip
  q_skip
  q_skip
  q_skip
  q_val (.bool false)
  q_c Zg
  q_cond false
  q_c ZU
  (repeat q_c Zn)
  q_reg
  q_val (.int .i32 0)
  q_val (.bool false)
  q_val (.bool false)
  q_val (.int .u32 0)
  q_val (.bool true)
  q_val (.bool true)
  q_c Zg
  q_cond true
  q_c z8
  q_enable
  q_leave0 H.f_add
  exact Nw i o!
 .replace b:WgAt L.tWg Wg w₁ (KK+1) 0:=by simpa using b
  have z:((0:Nat):Int)*KK+((1:Nat):Int)=1:=i!
  rw[z];refine⟨_,(Zap rfl rfl n! rfl H.f_addU64 (x_addU64_n L) (x_addU64_b L) (x_addU64_x L) .u64 (x_addU64_f L) rfl rfl b.cellSt (b.thaw 0)).trans (by rw[A];rfl),λ_=>⟨150,?_⟩,λe=>absurd ⟨rfl,rfl⟩ e⟩;have a:WgLive L.tWg Wg (w₁.setCell (stA Wg) (.int .u64 1)):=⟨_,_,b.setSt _⟩;clear b
  walk_nrm
  u_op Ag a
  u_c Zg Ag a
  u_c z8 Ag a
  u_leave1 H.f_uAdd Ag a
  u_op Ag a
  u_c Zg Ag a
  (repeat u_c Zn Ag a)
  u_reg Ag a
  iterate 4 (u_op Ag a)
  u_skip Ag a
  u_skip Ag a
  u_op Ag a
  u_c Zg Ag a
  u_cond false Ag a
  u_c ZU Ag a
  (repeat u_c Zn Ag a)
  u_reg Ag a
  iterate 4 (u_op Ag a)
  u_c Zg Ag a
  (repeat u_c Zn Ag a)
  u_reg Ag a
  iterate 4 (u_op Ag a)
  u_c Zg Ag a
  (repeat u_c Zn Ag a)
  u_reg Ag a
  iterate 5 (u_op Ag a)
  u_skip Ag a
  u_skip Ag a
  u_skip Ag a
  u_skip Ag a
  u_op Ag a
  u_c Zg Ag a
  u_cond false Ag a
  u_c ZU Ag a
  (repeat u_c Zn Ag a)
  u_reg Ag a
  u_op Ag a
  u_op Ag a
  u_c Zg Ag a
  u_cond false Ag a
  u_c ZU Ag a
  (repeat u_c Zn Ag a)
  u_reg Ag a
  iterate 7 (u_op Ag a)
  u_skip Ag a
  u_skip Ag a
  u_skip Ag a
  u_skip Ag a
  u_op Ag a
  u_c Zg Ag a
  u_cond false Ag a
  u_c ZU Ag a
  (repeat u_c Zn Ag a)
  u_reg Ag a
  iterate 6 (u_op Ag a)
  u_c Zg Ag a
  u_cond false Ag a
  u_c ZU Ag a
  (repeat (first|u_c Zn Ag a|u_c Zg Ag a|u_reg Ag a|u_op Ag a))
  u_call H.f_uLoad (nm_uLoad L) uLoadFn Ag a
  (repeat (first|u_c Zn Ag a|u_c Zg Ag a|u_reg Ag a|u_op Ag a))
  refine ZT (λw₂ r=>?_);replace a:=Ag a r;clear r;refine⟨rfl,λb=>⟨_,Zbp (v:=1) rfl rfl n! rfl H.f_loadU64 (x_loadU64_n L) (x_loadU64_b L) (x_loadU64_x L) .u64 (x_loadU64_f L) rfl b.cellSt,60,?_⟩⟩;clear b
  walk_nrm
  u_op Ag a
  u_c Zg Ag a
  u_c z8 Ag a
  u_leave1 H.f_uLoad Ag a
  u_op Ag a
  u_op Ag a
  u_c Zg Ag a
  u_cond false Ag a
  u_c ZU Ag a
  (repeat (first|u_c Zn Ag a|u_c Zg Ag a|u_reg Ag a|u_op Ag a))
  u_call H.f_uStore (nm_uStore L) uStoreFn Ag a
  u_reg Ag a
  iterate 4 (u_op Ag a)
  refine ZT (λDZ J=>?_);clear J a;refine⟨rfl,λb=>⟨_,stepG_store_atomic rfl rfl n! rfl H.f_storeU64 (x_storeU64_n L) (x_storeU64_b L) (x_storeU64_x L) (x_storeU64_f L) rfl rfl b.cellSt (b.thaw 0),60,?_⟩⟩;have a:WgLive L.tWg Wg (DZ.setCell (stA Wg) (.int .u64 0)):=⟨_,_,b.setSt 0⟩;clear b
  walk_nrm
  u_c Zg Ag a
  u_c stepG_end Ag a
  u_leave0 H.f_uStore Ag a
  u_c Zg Ag a
  (repeat u_c Zn Ag a)
  u_reg Ag a
  u_op Ag a
  u_c Zg Ag a
  u_cond false Ag a
  u_c ZU Ag a
  u_c Zbq Ag a
  u_c stepG_loop Ag a
  u_c Zn Ag a
  u_c Zn Ag a
  u_reg Ag a
  u_op Ag a
  u_op Ag a
  u_c Zg Ag a
  u_cond true Ag a
  u_c ZU Ag a
  u_c Zn Ag a
  u_c Zbq Ag a
  u_reg Ag a
  iterate 3 (u_op Ag a)
  refine ZT (λM C=>?_);clear C a;refine⟨rfl,mayWake_entry rfl rfl H.f_semrelease (x_semrelease_b L),λb=>⟨_,(stepG_semrelease (n:=0) rfl rfl n! rfl H.f_semrelease (x_semrelease_n L) (x_semrelease_b L) (x_semrelease_x L) (x_semrelease_f L) (by simp[ZbM,smA]) b.cellSm (b.thaw 1)).trans (by rfl),qt+60,?_⟩⟩;clear b
  walk_nrm
  q_c Zg
  q_c stepG_inBlock
  q_reg
  q_val (.int .u32 1)
  q_val (.int .u32 0)
  q_val (.int .u32 0)
  q_c Zg
  q_c stepG_inLoop
  q_c Zn
  q_c Zn
  q_reg
  q_val (.int .u32 0)
  q_val (.bool false)
  q_c Zg
  q_cond false
  q_exit
  q_c stepG_end
  q_enable
  q_leave0 H.f_add
  exact Nw i o!
 .obtain⟨V,c⟩:∃V:Int,V=(v:Int):=⟨_,rfl⟩
  obtain⟨S',d⟩:∃S':Int,S'=V*KK+0:=⟨_,rfl⟩;have h:IntKind.u64.wrap (((v:Int)+1)*KK+((0:Nat):Int)+18446744069414584320)=S':=by rw[Zbc,d,c];simp only[KK];omega
  have g:(v:Int)*KK+((0:Nat):Int)=S':=by rw[d,c];simp
  rw[g];have I:S' / 4294967296=V:=by rw[d,c];simp only[KK];omega
  have F:bits .and .u64 S' 2147483648=0:=by rw[d,c];have:=Za6 v 0 o! o!;simpa[KK]using this
  have E:bits .and .u64 S' 2147483647=0:=by rw[d,c];have:=ZaG v 0 o! o!;simpa[KK]using this
  have D:IntKind.i32.wrap V=V:=by rw[Za8];omega
  have j:0<V:=o!
  have y:V<2147483648:=o!
  have t:decide (V<0)=false:=decide_eq_false o!;have s:decide (0<V)=true:=decide_eq_true o!;refine⟨_,(Zap rfl rfl n! rfl H.f_addU64 (x_addU64_n L) (x_addU64_b L) (x_addU64_x L) .u64 (x_addU64_f L) rfl rfl b.cellSt (b.thaw 0)).trans (by rw[h];rfl),λe=>absurd e.1 o!,λ_=>⟨qt+120,?_⟩⟩;clear b d c h g
  walk_nrm
  q_val (.int .u64 S')
  q_c Zg
  q_c z8
  q_leave1 H.f_uAdd
  q_val (.int .u64 S')
  q_c Zg
  (repeat q_c Zn)
  q_reg
  q_val (.int .u64 S')
  q_vn (.int .u64 0)
  q_val (.bool false)
  q_val (.bool false)
  q_skip
  q_skip
  q_val (.bool false)
  q_c Zg
  q_cond false
  q_c ZU
  (repeat q_c Zn)
  q_reg
  q_val (.int .u64 S')
  q_vn (.int .u64 V)
  q_vn (.int .i32 V)
  q_val (.int .i32 V)
  q_c Zg
  (repeat q_c Zn)
  q_reg
  q_val (.int .u64 S')
  q_vn (.int .u64 0)
  q_vn (.int .u32 0)
  q_val (.int .u32 0)
  q_c Zg
  (repeat q_c Zn)
  q_reg
  q_val (.bool true)
  q_val (.int .i64 (-1))
  q_val (.bool false)
  q_val (.bool false)
  q_val (.bool false)
  q_skip
  q_skip
  q_skip
  q_skip
  q_val (.bool false)
  q_c Zg
  q_cond false
  q_c ZU
  (repeat q_c Zn)
  q_reg
  q_val (.int .i32 V)
  q_vn (.bool false)
  q_c Zg
  q_cond false
  q_c ZU
  (repeat q_c Zn)
  q_reg
  q_val (.int .u32 0)
  q_vn (.bool false)
  q_val (.bool false)
  q_skip
  q_skip
  q_val (.bool false)
  q_val (.bool false)
  q_skip
  q_skip
  q_skip
  q_skip
  q_val (.bool false)
  q_c Zg
  q_cond false
  q_c ZU
  (repeat q_c Zn)
  q_reg
  q_val (.int .i32 V)
  q_vn (.bool true)
  q_val (.bool true)
  q_skip
  q_skip
  q_val (.bool true)
  q_c Zg
  q_cond true
  q_c z8
  q_enable
  q_leave0 H.f_add
  exact Nw i o!
 obtain⟨V,c⟩:∃V:Int,V=(v:Int):=⟨_,rfl⟩;obtain⟨S',d⟩:∃S':Int,S'=V*KK+1:=⟨_,rfl⟩;have h:IntKind.u64.wrap (((v:Int)+1)*KK+((1:Nat):Int)+18446744069414584320)=S':=by rw[Zbc,d,c];simp only[KK];omega
 have g:(v:Int)*KK+((1:Nat):Int)=S':=by rw[d,c];simp
 rw[g];have I:S' / 4294967296=V:=by rw[d,c];simp only[KK];omega
 have F:bits .and .u64 S' 2147483648=0:=by rw[d,c];have:=Za6 v 1 o! o!;simpa[KK]using this
 have E:bits .and .u64 S' 2147483647=1:=by rw[d,c];have:=ZaG v 1 o! o!;simpa[KK]using this
 have D:IntKind.i32.wrap V=V:=by rw[Za8];omega
 have j:0<V:=o!
 have y:V<2147483648:=o!
 have t:decide (V<0)=false:=decide_eq_false o!;have s:decide (0<V)=true:=decide_eq_true o!;refine⟨_,(Zap rfl rfl n! rfl H.f_addU64 (x_addU64_n L) (x_addU64_b L) (x_addU64_x L) .u64 (x_addU64_f L) rfl rfl b.cellSt (b.thaw 0)).trans (by rw[h];rfl),λe=>absurd e.1 o!,λ_=>⟨qt+120,?_⟩⟩;clear b d c h g
 walk_nrm
 q_val (.int .u64 S')
 q_c Zg
 q_c z8
 q_leave1 H.f_uAdd
 q_val (.int .u64 S')
 q_c Zg
 (repeat q_c Zn)
 q_reg
 q_val (.int .u64 S')
 q_vn (.int .u64 0)
 q_val (.bool false)
 q_val (.bool false)
 q_skip
 q_skip
 q_val (.bool false)
 q_c Zg
 q_cond false
 q_c ZU
 (repeat q_c Zn)
 q_reg
 q_val (.int .u64 S')
 q_vn (.int .u64 V)
 q_vn (.int .i32 V)
 q_val (.int .i32 V)
 q_c Zg
 (repeat q_c Zn)
 q_reg
 q_val (.int .u64 S')
 q_vn (.int .u64 1)
 q_vn (.int .u32 1)
 q_val (.int .u32 1)
 q_c Zg
 (repeat q_c Zn)
 q_reg
 q_val (.bool true)
 q_val (.int .i64 (-1))
 q_val (.bool false)
 q_val (.bool false)
 q_val (.bool false)
 q_skip
 q_skip
 q_skip
 q_skip
 q_val (.bool false)
 q_c Zg
 q_cond false
 q_c ZU
 (repeat q_c Zn)
 q_reg
 q_val (.int .i32 V)
 q_vn (.bool false)
 q_c Zg
 q_cond false
 q_c ZU
 (repeat q_c Zn)
 q_reg
 q_val (.int .u32 1)
 q_vn (.bool true)
 q_val (.bool true)
 q_val (.int .i64 (-1))
 q_val (.bool false)
 q_val (.bool false)
 q_val (.bool false)
 q_skip
 q_skip
 q_skip
 q_skip
 q_val (.bool false)
 q_c Zg
 q_cond false
 q_c ZU
 (repeat q_c Zn)
 q_reg
 q_val (.int .i32 V)
 q_vn (.bool true)
 q_val (.bool true)
 q_skip
 q_skip
 q_val (.bool true)
 q_c Zg
 q_cond true
 q_c z8
 q_enable
 q_leave0 H.f_add
 exact Nw i o!
def aeY {P:Zo}(H:WgLib P L){Wg:Nat}{S:Nat->Prop}{c:ZM}{cs:List ZM}{qt:Nat}(d:c.mode=.returning)(e:ZcA P qt 0 (G c cs))(w:Zb)(a:WgLive L.tWg Wg w):
  Goes P false (Ah L.tWg Wg S) DC0 (AtR0 P L.tWg Wg S) 43 (G ((baseD L.done).at ⟨#[.pointer Wg,Ze,Ze,Ze],[]⟩ [.code (body_done L)]) (c::cs)) w:=by
 lib_facts
 have b:= @te L P H Wg S;simp only[body_done,body_add,doneFn,addFn,Zw]at b⊢
 u_reg Ag a
 u_op Ag a
 u_in Ag a
 refine goes_call rfl rfl n! rfl H.f_add (nm_add L) rfl ⟨by u_nil,?_⟩
 walk_nrmf addFn
 refine b (qt:=qt+3) ?_ _ a
 q_c Zg
 q_c stepG_end
 exact QuitsD.leaveD rfl rfl H.f_done rfl d e
end
structure Gm (ty:Zs)(Wg:Nat)(S:Nat->Prop)(F:Zb->Prop):Prop where
 rely:∀w w',Ah ty Wg S w w'->F w->F w'
 set:∀w (a:Addr) v,a.block=Wg->F w->F (w.setCell a v)
def Ab {ty:Zs}{Wg:Nat}{S:Nat->Prop}{F:Zb->Prop}(a:Gm ty Wg S F){w w₁:Zb}(h:F w/\WgLive ty Wg w)(r:Ah ty Wg S w w₁):F w₁/\WgLive ty Wg w₁:=⟨a.rely _ _ r h.1,r.live h.2⟩
section
variable {L:WgLink}
def tf {P:Zo}(H:WgLib P L){Wg Ch:Nat}{S:Nat->Prop}{F:Zb->Prop}(a:Gm L.tWg Wg S F){Pay:Gk}{Next:Cd}{b₀:ZM}{m:Act}{f:Array Oper}{l:Nat}{n:List Nat}{k:List Item}{cs:List ZM}{mT:Nat}
  (i:∀w,F w->WgLive L.tWg Wg w->Goes P true (Ah L.tWg Wg S) DC0 (AtGoS P L.tWg Wg Ch Pay Next S) mT (G (b₀.at (m.put ((f[l]?).bind (·.dst)) (.tuple #[])) (.inRegion f n::k)) cs) w)
  (w:Zb) (hF:F w/\WgLive L.tWg Wg w):
  Goes P true (Ah L.tWg Wg S) DC0 (AtKdS P L.tWg Wg Ch Pay Next S) 40 (G ((base L.add).at ⟨#[.pointer Wg,.int .i64 1,Ze,Ze,Ze,Ze,Ze,Ze,Ze,Ze,Ze,Ze,Ze,Ze,Ze,Ze,Ze,Ze,Ze,Ze,Ze,Ze,Ze,Ze,Ze,Ze,Ze,Ze,Ze,Ze,Ze,Ze,Ze,Ze,Ze,Ze,Ze,Ze,Ze,Ze,Ze,Ze,Ze,Ze,Ze,Ze,Ze,Ze,Ze,Ze,Ze,Ze,Ze,Ze,Ze,Ze,Ze,Ze,Ze,Ze,Ze,Ze,Ze,Ze,Ze,Ze,Ze,Ze,Ze,Ze,Ze,Ze,Ze,Ze,Ze,Ze,Ze,Ze,Ze,Ze,Ze,Ze,Ze,Ze,Ze,Ze,Ze,Ze,Ze,Ze,Ze,Ze,Ze,Ze,Ze,Ze,Ze,Ze,Ze,Ze,Ze,Ze,Ze,Ze,Ze,Ze,Ze,Ze,Ze,Ze,Ze,Ze,Ze,Ze,Ze,Ze,Ze],[]⟩ [.code (body_add L)]) (b₀.at m (.inRegion f (l::n)::k)::cs)) w:=by
 lib_facts
 simp only[body_add,addFn,Zw]
 u_c Zn (Ab a) hF
 u_cond true (Ab a) hF
 u_c Zn (Ab a) hF
 u_c Zn (Ab a) hF
 u_reg (Ab a) hF
 u_op (Ab a) hF
 u_op (Ab a) hF
 u_c Zg (Ab a) hF
 u_cond false (Ab a) hF
 u_c ZU (Ab a) hF
 u_c Zn (Ab a) hF
 u_reg (Ab a) hF
 refine ZT (λw₁ p=>?_);replace hF:=Ab a hF p;clear p;refine⟨rfl,_,Zb6 .disable i! rfl rfl n! rfl H.f_disable (x_disable_n L) (x_disable_b L) (x_disable_x L) (x_disable_f L),60,?_⟩
 walk_nrm
 repeat (first|u_c Zn (Ab a) hF|u_c Zg (Ab a) hF|u_c ZU (Ab a) hF|u_cond false (Ab a) hF|u_reg (Ab a) hF|u_op (Ab a) hF|u_defer (Ab a) hF|u_bub (Ab a) hF|u_call H.f_uAdd (nm_uAdd L) uAddFn (Ab a) hF)
 refine ZT (λw₂ o=>?_);replace hF:=Ab a hF o;clear o;refine⟨rfl,λv C b=>?_⟩;rcases zQ v with rfl|q
 .replace b:WgAt L.tWg Wg w₂ 0 0:=by simpa using b
  have z:(((0:Nat):Int)+1)*KK=KK:=i!
  rw[z];have s:IntKind.u64.wrap (0+4294967296)=KK:=d!
  refine⟨_,(Zap rfl rfl n! rfl H.f_addU64 (x_addU64_n L) (x_addU64_b L) (x_addU64_x L) .u64 (x_addU64_f L) rfl rfl b.cellSt (b.thaw 0)).trans (by rw[s];rfl),λ_=>⟨150,?_⟩,λh=>absurd rfl h⟩;replace hF:F (w₂.setCell (stA Wg) (.int .u64 KK))/\WgLive L.tWg Wg (w₂.setCell (stA Wg) (.int .u64 KK)):=⟨a.set _ _ _ rfl hF.1,⟨_,_,b.setSt _⟩⟩;clear b;simp only[KK]at hF⊢
  walk_nrm
  u_op (Ab a) hF
  u_c Zg (Ab a) hF
  u_c z8 (Ab a) hF
  u_leave1 H.f_uAdd (Ab a) hF
  u_op (Ab a) hF
  u_c Zg (Ab a) hF
  (repeat u_c Zn (Ab a) hF)
  u_reg (Ab a) hF
  iterate 4 (u_op (Ab a) hF)
  u_skip (Ab a) hF
  u_skip (Ab a) hF
  u_op (Ab a) hF
  u_c Zg (Ab a) hF
  u_cond false (Ab a) hF
  u_c ZU (Ab a) hF
  (repeat u_c Zn (Ab a) hF)
  u_reg (Ab a) hF
  iterate 4 (u_op (Ab a) hF)
  u_c Zg (Ab a) hF
  (repeat u_c Zn (Ab a) hF)
  u_reg (Ab a) hF
  iterate 4 (u_op (Ab a) hF)
  u_c Zg (Ab a) hF
  (repeat u_c Zn (Ab a) hF)
  u_reg (Ab a) hF
  iterate 10 (u_op (Ab a) hF)
  u_c Zg (Ab a) hF
  u_cond true (Ab a) hF
  (repeat u_c Zn (Ab a) hF)
  u_reg (Ab a) hF
  iterate 3 (u_op (Ab a) hF)
  u_conv H.underlying_tPU32 H.room_tU32 (WgLive.cell1 hF.2).choose_spec (Ab a) hF
  refine ZT (λM g=>?_);replace hF:=Ab a hF g;clear g;refine⟨rfl,_,ZbN .read i! rfl rfl n! rfl H.f_raceRead (x_raceRead_n L) (x_raceRead_b L) (x_raceRead_x L) (x_raceRead_f L) (by simp[ZbM,smA]),80,?_⟩
  walk_nrm
  u_c Zg (Ab a) hF
  (repeat u_c Zn (Ab a) hF)
  (repeat u_c Zn (Ab a) hF)
  u_reg (Ab a) hF
  u_op (Ab a) hF
  u_op (Ab a) hF
  u_c Zg (Ab a) hF
  u_cond false (Ab a) hF
  u_c ZU (Ab a) hF
  (repeat u_c Zn (Ab a) hF)
  u_reg (Ab a) hF
  iterate 3 (u_op (Ab a) hF)
  u_skip (Ab a) hF
  u_skip (Ab a) hF
  u_op (Ab a) hF
  u_op (Ab a) hF
  u_skip (Ab a) hF
  u_skip (Ab a) hF
  u_skip (Ab a) hF
  u_skip (Ab a) hF
  u_op (Ab a) hF
  u_c Zg (Ab a) hF
  u_cond false (Ab a) hF
  u_c ZU (Ab a) hF
  (repeat u_c Zn (Ab a) hF)
  u_reg (Ab a) hF
  iterate 3 (u_op (Ab a) hF)
  u_skip (Ab a) hF
  u_skip (Ab a) hF
  u_op (Ab a) hF
  u_c Zg (Ab a) hF
  u_cond true (Ab a) hF
  u_c z8 (Ab a) hF
  refine ZT (λDZ e=>?_);replace hF:=Ab a hF e;clear e;refine⟨rfl,_,stepG_unwind_entry (v:=.tuple #[]) (evs:= #[mk .enable]) rfl H.f_enable (x_enable_n L) (x_enable_b L) (x_enable_x L) (x_enable_f L) (by simp[Zdn]) (by simp[mk]) (by simp[mk]),mT+1,?_⟩
  u_leave0 H.f_add (Ab a) hF
  exact i _ hF.1 hF.2
 obtain⟨V,d⟩:∃V:Int,V=(v:Int)+1:=⟨_,rfl⟩;obtain⟨S',c⟩:∃S':Int,S'=V*KK:=⟨_,rfl⟩;have j:IntKind.u64.wrap ((v:Int)*KK+4294967296)=S':=by rw[Zbc,c,d];simp only[KK];omega
 rw[<-d, <-c];have K:S' / 4294967296=V:=by rw[c];simp only[KK];omega
 have J:bits .and .u64 S' 2147483648=0:=by rw[c,d];have:=Za6 (v+1) 0 o! o!;simpa[KK]using this
 have I:bits .and .u64 S' 2147483647=0:=by rw[c,d];have:=ZaG (v+1) 0 o! o!;simpa[KK]using this
 have E:IntKind.i32.wrap V=V:=by rw[Za8];omega
 have r:1<V:=o!
 have D:V<2147483648:=o!
 have B:(V==1)=false:=j!
 have A:decide (V=1)=false:=decide_eq_false o!;have y:decide (V<0)=false:=decide_eq_false o!;have x:decide (0<V)=true:=decide_eq_true o!;have u:(V==0)=false:=j!
 have t:decide (V=0)=false:=decide_eq_false o!;refine⟨_,(Zap rfl rfl n! rfl H.f_addU64 (x_addU64_n L) (x_addU64_b L) (x_addU64_x L) .u64 (x_addU64_f L) rfl rfl b.cellSt (b.thaw 0)).trans (by rw[j];rfl),λh=>absurd h o!,λ_=>⟨150,?_⟩⟩;replace hF:F (w₂.setCell (stA Wg) (.int .u64 S'))/\WgLive L.tWg Wg (w₂.setCell (stA Wg) (.int .u64 S')):=⟨a.set _ _ _ rfl hF.1,⟨_,_,b.setSt _⟩⟩;clear b c d j
 walk_nrm
 u_op (Ab a) hF
 u_c Zg (Ab a) hF
 u_c z8 (Ab a) hF
 u_leave1 H.f_uAdd (Ab a) hF
 u_op (Ab a) hF
 u_c Zg (Ab a) hF
 (repeat u_c Zn (Ab a) hF)
 u_reg (Ab a) hF
 iterate 4 (u_op (Ab a) hF)
 u_skip (Ab a) hF
 u_skip (Ab a) hF
 u_op (Ab a) hF
 u_c Zg (Ab a) hF
 u_cnd false (Ab a) hF
 u_c ZU (Ab a) hF
 (repeat u_c Zn (Ab a) hF)
 u_reg (Ab a) hF
 iterate 4 (u_op (Ab a) hF)
 u_c Zg (Ab a) hF
 (repeat u_c Zn (Ab a) hF)
 u_reg (Ab a) hF
 iterate 4 (u_op (Ab a) hF)
 u_c Zg (Ab a) hF
 (repeat u_c Zn (Ab a) hF)
 u_reg (Ab a) hF
 iterate 10 (u_op (Ab a) hF)
 u_c Zg (Ab a) hF
 u_cnd false (Ab a) hF
 u_c ZU (Ab a) hF
 (repeat u_c Zn (Ab a) hF)
 u_reg (Ab a) hF
 u_op (Ab a) hF
 u_op (Ab a) hF
 u_c Zg (Ab a) hF
 u_cnd false (Ab a) hF
 u_c ZU (Ab a) hF
 (repeat u_c Zn (Ab a) hF)
 u_reg (Ab a) hF
 iterate 3 (u_op (Ab a) hF)
 u_skip (Ab a) hF
 u_skip (Ab a) hF
 u_op (Ab a) hF
 u_op (Ab a) hF
 u_skip (Ab a) hF
 u_skip (Ab a) hF
 u_skip (Ab a) hF
 u_skip (Ab a) hF
 u_op (Ab a) hF
 u_c Zg (Ab a) hF
 u_cnd false (Ab a) hF
 u_c ZU (Ab a) hF
 (repeat u_c Zn (Ab a) hF)
 u_reg (Ab a) hF
 iterate 3 (u_op (Ab a) hF)
 u_skip (Ab a) hF
 u_skip (Ab a) hF
 u_op (Ab a) hF
 u_c Zg (Ab a) hF
 u_cnd true (Ab a) hF
 u_c z8 (Ab a) hF
 refine ZT (λDZ e=>?_);replace hF:=Ab a hF e;clear e;refine⟨rfl,_,stepG_unwind_entry (v:=.tuple #[]) (evs:= #[mk .enable]) rfl H.f_enable (x_enable_n L) (x_enable_b L) (x_enable_x L) (x_enable_f L) (by simp[Zdn]) (by simp[mk]) (by simp[mk]),mT+1,?_⟩
 u_leave0 H.f_add (Ab a) hF
 exact i _ hF.1 hF.2
end
def QB {a:Bool}{R:Zb->Zb->Prop}{D:Zb->Zb->Array Z9->Prop}{b:Zi->Zb->Prop}(h:Goes P a R D b n g w)(d:n<=m):Goes P a R D b m g w:=by
 induction d with
 |refl=>exact h
 |step _ c=>exact c.more
def VW (L:WgLink)(F:(Nat->Prop)->Zb->Prop)(Wg:Nat)(c:ZM)(cs:List ZM):Cd:=λS g w=>
 Gm L.tWg Wg S (F S)/\∃T:Array Zf,g=G ((base L.wait).at ⟨T,[]⟩ [.code (L7 L),.inLoop (L7 L),.inBlock 0]) (c::cs)/\T.size=84/\T[0]?=some (.pointer Wg)/\F S w/\WgLive L.tWg Wg w
section
variable {L:WgLink}
def dC (H:WgLib P L){F:(Nat->Prop)->Zb->Prop}{Anch:Cd}{b₀:ZM}{p:Act}{j:Array Oper}{o:Nat}{q:List Nat}{l:List Item}{cs:List ZM}{mT:Nat}(u:∀S,Gm L.tWg Wg S (F S)->∀w,F S w->WgLive L.tWg Wg w->Goes P true (Ah L.tWg Wg S) DC0 (Anch S) mT (G (b₀.at (p.put ((j[o]?).bind (·.dst)) (.tuple #[])) (.inRegion j q::l)) cs) w)
 (S:Nat->Prop) (g:Zi) (w:Zb) (h:VW L F Wg (b₀.at p (.inRegion j (o::q)::l)) cs S g w):
  ∃m,Goes P true (Ah L.tWg Wg S) DC0 (AtW1 P L.tWg Wg Anch (VW L F Wg (b₀.at p (.inRegion j (o::q)::l)) cs) S) m g w:=by
 lib_facts
 obtain⟨a,T,rfl,k,s,hF⟩:=h;obtain⟨v0,v1,v2,v3,v4,v5,v6,v7,v8,v9,fw,fu,QC,QD,QE,QF,QG,QH,QI,QK,fm,QL,QM,QN,QO,QP,QQ,QR,QS,QT,fi,QU,QV,QW,QX,QY,QZ,VX,VY,VZ,V9,Q0,fd,ed,ea,du,dl,ct,co,ck,ci,b9,b8,bV,bU,bv,bi,be,bc,ba,ap,an,am,ai,ac,Z,Y,X,W,V,U,R,Q,O,N,M,K,J,I,E,D,C,B,A,rfl⟩:=array84 T k;simp only[ZG,ZC,ZJ]at s;subst s;refine⟨40,?_⟩;simp only[L7,body_wait,waitFn,Zw]
 u_c Zbq (Ab a) hF
 (repeat u_c Zn (Ab a) hF)
 u_reg (Ab a) hF
 iterate 3 (u_op (Ab a) hF)
 u_call H.f_uLoad (nm_uLoad L) uLoadFn (Ab a) hF
 (repeat u_c Zn (Ab a) hF)
 u_reg (Ab a) hF
 u_op (Ab a) hF
 u_c Zg (Ab a) hF
 (repeat u_c Zn (Ab a) hF)
 u_reg (Ab a) hF
 iterate 3 (u_op (Ab a) hF)
 refine ZT (λw₁ z=>?_);replace hF:=Ab a hF z;clear z;refine⟨rfl,λv hv b=>?_⟩;rcases zQ v with rfl|fx
 .replace b:WgAt L.tWg Wg w₁ 0 0:=by simpa using b
  refine⟨_,Zbp (v:=0) rfl rfl n! rfl H.f_loadU64 (x_loadU64_n L) (x_loadU64_b L) (x_loadU64_x L) .u64 (x_loadU64_f L) rfl b.cellSt,λ_=>⟨80,?_⟩,λh=>absurd rfl h⟩;clear b
  walk_nrm
  u_op (Ab a) hF
  u_c Zg (Ab a) hF
  u_c z8 (Ab a) hF
  u_leave1 H.f_uLoad (Ab a) hF
  u_op (Ab a) hF
  u_c Zg (Ab a) hF
  (repeat u_c Zn (Ab a) hF)
  u_reg (Ab a) hF
  iterate 4 (u_op (Ab a) hF)
  u_c Zg (Ab a) hF
  (repeat u_c Zn (Ab a) hF)
  u_reg (Ab a) hF
  iterate 4 (u_op (Ab a) hF)
  u_c Zg (Ab a) hF
  (repeat u_c Zn (Ab a) hF)
  u_reg (Ab a) hF
  u_op (Ab a) hF
  u_op (Ab a) hF
  u_c Zg (Ab a) hF
  u_cond true (Ab a) hF
  (repeat u_c Zn (Ab a) hF)
  u_cond true (Ab a) hF
  (repeat u_c Zn (Ab a) hF)
  u_reg (Ab a) hF
  refine ZT (λtg f=>?_);replace hF:=Ab a hF f;clear f;refine⟨rfl,_,Zb6 .enable i! rfl rfl n! rfl H.f_enable (x_enable_n L) (x_enable_b L) (x_enable_x L) (x_enable_f L),30,?_⟩
  walk_nrm
  u_c Zg (Ab a) hF
  u_reg (Ab a) hF
  u_op (Ab a) hF
  u_conv H.underlying_tWgP H.room_tWg (WgLive.cell0 hF.2).choose_spec (Ab a) hF
  refine ZT (λth d=>?_);replace hF:=Ab a hF d;clear d;refine⟨rfl,_,ZbN .acquire i! rfl rfl n! rfl H.f_acquire (x_acquire_n L) (x_acquire_b L) (x_acquire_x L) (x_acquire_f L) (by simp[ZbM,stA]),mT+40,?_⟩
  walk_nrm
  u_c Zg (Ab a) hF
  (repeat u_c Zn (Ab a) hF)
  u_reg (Ab a) hF
  iterate 8 (u_op (Ab a) hF)
  u_skip (Ab a) hF
  u_skip (Ab a) hF
  u_op (Ab a) hF
  u_c Zg (Ab a) hF
  u_cond false (Ab a) hF
  u_c ZU (Ab a) hF
  u_c z8 (Ab a) hF
  u_leave0 H.f_wait (Ab a) hF
  exact QB (u S a _ hF.1 hF.2) o!
 obtain⟨S',c⟩:∃S':Int,(v:Int)*KK=S':=⟨_,rfl⟩;have a1:S' / 4294967296=(v:Int):=by rw[<-c];simp only[KK];omega
 have b1:bits .and .u64 S' 2147483648=0:=by rw[<-c];have:=Za6 v 0 o! o!;simpa[KK]using this
 have b2:bits .and .u64 S' 2147483647=0:=by rw[<-c];have:=ZaG v 0 o! o!;simpa[KK]using this
 have c1:IntKind.i32.wrap (v:Int)=(v:Int):=by rw[Za8];omega
 have w1:IntKind.u64.wrap (S'+1)=S'+1:=by rw[Zbc, <-c];simp only[KK];omega
 have q3:decide ((v:Int)<0)=false:=decide_eq_false o!;have q4:decide (0<(v:Int))=true:=decide_eq_true o!;have q5:((v:Int)==0)=false:=j!
 have q6:decide ((v:Int)=0)=false:=decide_eq_false o!;rw[c]at b;refine⟨_,Zbp (v:=S') rfl rfl n! rfl H.f_loadU64 (x_loadU64_n L) (x_loadU64_b L) (x_loadU64_x L) .u64 (x_loadU64_f L) rfl b.cellSt,λh0=>absurd h0 o!,λ_=>⟨90,?_⟩⟩;clear b
 walk_nrm
 u_op (Ab a) hF
 u_c Zg (Ab a) hF
 u_c z8 (Ab a) hF
 u_leave1 H.f_uLoad (Ab a) hF
 u_op (Ab a) hF
 u_c Zg (Ab a) hF
 (repeat u_c Zn (Ab a) hF)
 u_reg (Ab a) hF
 iterate 4 (u_op (Ab a) hF)
 u_c Zg (Ab a) hF
 (repeat u_c Zn (Ab a) hF)
 u_reg (Ab a) hF
 iterate 4 (u_op (Ab a) hF)
 u_c Zg (Ab a) hF
 (repeat u_c Zn (Ab a) hF)
 u_reg (Ab a) hF
 u_op (Ab a) hF
 u_op (Ab a) hF
 u_c Zg (Ab a) hF
 u_cnd false (Ab a) hF
 u_c ZU (Ab a) hF
 (repeat u_c Zn (Ab a) hF)
 u_reg (Ab a) hF
 iterate 6 (u_op (Ab a) hF)
 u_call H.f_uCas (nm_uCas L) uCasFn (Ab a) hF
 (repeat u_c Zn (Ab a) hF)
 u_reg (Ab a) hF
 u_op (Ab a) hF
 u_c Zg (Ab a) hF
 (repeat u_c Zn (Ab a) hF)
 u_reg (Ab a) hF
 iterate 5 (u_op (Ab a) hF)
 refine ZT (λw₂ y=>?_);replace hF:=Ab a hF y;clear y;refine⟨rfl,λv' iZ b=>⟨λe=>?_,λe=>?_⟩⟩
 .subst e
  rw[c]at b⊢;refine⟨_,(stepG_cas_hit (v:=S') (n:=S'+1) rfl rfl n! rfl H.f_casU64 (x_casU64_n L) (x_casU64_b L) (x_casU64_x L) .u64 (x_casU64_f L) rfl rfl rfl b.cellSt (b.thaw 0)).trans (by rfl),60,?_⟩;replace hF:F S (w₂.setCell (stA Wg) (.int .u64 (S'+1)))/\WgLive L.tWg Wg (w₂.setCell (stA Wg) (.int .u64 (S'+1))):=⟨a.set _ _ _ rfl hF.1,⟨_,_,b.setSt _⟩⟩;clear b
  walk_nrm
  u_op (Ab a) hF
  u_c Zg (Ab a) hF
  u_c z8 (Ab a) hF
  u_leave1 H.f_uCas (Ab a) hF
  u_c Zg (Ab a) hF
  u_cond true (Ab a) hF
  (repeat u_c Zn (Ab a) hF)
  u_reg (Ab a) hF
  iterate 4 (u_op (Ab a) hF)
  u_c Zg (Ab a) hF
  u_cond true (Ab a) hF
  u_reg (Ab a) hF
  iterate 3 (u_op (Ab a) hF)
  u_conv H.underlying_tPU32 H.room_tU32 (WgLive.cell1 hF.2).choose_spec (Ab a) hF
  refine ZT (λCG t=>?_);replace hF:=Ab a hF t;clear t;refine⟨rfl,_,ZbN .write i! rfl rfl n! rfl H.f_raceWrite (x_raceWrite_n L) (x_raceWrite_b L) (x_raceWrite_x L) (x_raceWrite_f L) (by simp[ZbM,smA]),60,?_⟩
  walk_nrm
  u_c Zg (Ab a) hF
  (repeat u_c Zn (Ab a) hF)
  u_reg (Ab a) hF
  u_op (Ab a) hF
  u_c Zg (Ab a) hF
  (repeat u_c Zn (Ab a) hF)
  u_reg (Ab a) hF
  iterate 4 (u_op (Ab a) hF)
  u_skip (Ab a) hF
  u_op (Ab a) hF
  u_c Zg (Ab a) hF
  u_cond false (Ab a) hF
  u_c ZU (Ab a) hF
  (repeat u_c Zn (Ab a) hF)
  u_reg (Ab a) hF
  iterate 4 (u_op (Ab a) hF)
  refine ZT (λDZ x=>?_);replace hF:=Ab a hF x;clear x;refine⟨rfl,rfl,λ⟨st,b⟩=>stepG_semacquire_wait rfl rfl rfl H.f_semacquire (x_semacquire_n L) (x_semacquire_b L) (x_semacquire_x L) (x_semacquire_f L) (by simp[ZbM,smA]) b.cellSm,λi=>?_⟩;refine⟨_,(stepG_semacquire (n:=1) rfl rfl n! rfl H.f_semacquire (x_semacquire_n L) (x_semacquire_b L) (x_semacquire_x L) (x_semacquire_f L) (by simp[ZbM,smA]) i.cellSm n! (i.thaw 1)).trans (by rfl),50,?_⟩;replace hF:F S (DZ.setCell (smA Wg) (.int .u32 0))/\WgLive L.tWg Wg (DZ.setCell (smA Wg) (.int .u32 0)):=⟨a.set _ _ _ rfl hF.1,⟨_,_,i.setSm 0⟩⟩;clear i
  walk_nrm
  u_c Zg (Ab a) hF
  (repeat u_c Zn (Ab a) hF)
  u_reg (Ab a) hF
  iterate 3 (u_op (Ab a) hF)
  u_call H.f_uLoad (nm_uLoad L) uLoadFn (Ab a) hF
  (repeat u_c Zn (Ab a) hF)
  u_reg (Ab a) hF
  u_op (Ab a) hF
  u_c Zg (Ab a) hF
  (repeat u_c Zn (Ab a) hF)
  u_reg (Ab a) hF
  iterate 3 (u_op (Ab a) hF)
  refine ZT (λKU r=>?_);replace hF:=Ab a hF r;clear r;refine⟨rfl,λb=>⟨_,Zbp (v:=0) rfl rfl n! rfl H.f_loadU64 (x_loadU64_n L) (x_loadU64_b L) (x_loadU64_x L) .u64 (x_loadU64_f L) rfl b.cellSt,40,?_⟩⟩;clear b
  walk_nrm
  u_op (Ab a) hF
  u_c Zg (Ab a) hF
  u_c z8 (Ab a) hF
  u_leave1 H.f_uLoad (Ab a) hF
  u_op (Ab a) hF
  u_op (Ab a) hF
  u_c Zg (Ab a) hF
  (repeat u_c Zn (Ab a) hF)
  u_cond true (Ab a) hF
  (repeat u_c Zn (Ab a) hF)
  u_reg (Ab a) hF
  refine ZT (λtg f=>?_);replace hF:=Ab a hF f;clear f;refine⟨rfl,_,Zb6 .enable i! rfl rfl n! rfl H.f_enable (x_enable_n L) (x_enable_b L) (x_enable_x L) (x_enable_f L),30,?_⟩
  walk_nrm
  u_c Zg (Ab a) hF
  u_reg (Ab a) hF
  u_op (Ab a) hF
  u_conv H.underlying_tWgP H.room_tWg (WgLive.cell0 hF.2).choose_spec (Ab a) hF
  refine ZT (λth d=>?_);replace hF:=Ab a hF d;clear d;refine⟨rfl,_,ZbN .acquire i! rfl rfl n! rfl H.f_acquire (x_acquire_n L) (x_acquire_b L) (x_acquire_x L) (x_acquire_f L) (by simp[ZbM,stA]),mT+40,?_⟩
  walk_nrm
  u_c Zg (Ab a) hF
  (repeat u_c Zn (Ab a) hF)
  u_reg (Ab a) hF
  u_op (Ab a) hF
  u_c Zg (Ab a) hF
  u_cond false (Ab a) hF
  u_c ZU (Ab a) hF
  u_c z8 (Ab a) hF
  u_leave0 H.f_wait (Ab a) hF
  exact QB (u S a _ hF.1 hF.2) o!
 refine⟨_,stepG_cas_miss (v:=(v':Int)*KK) (old:=S') (n:=S'+1) rfl rfl n! rfl H.f_casU64 (x_casU64_n L) (x_casU64_b L) (x_casU64_x L) .u64 (x_casU64_f L) rfl rfl rfl b.cellSt (b.thaw 0) (by rw[<-c];simp only[KK];omega),30,?_⟩;clear b
 walk_nrm
 u_op (Ab a) hF
 u_c Zg (Ab a) hF
 u_c z8 (Ab a) hF
 u_leave1 H.f_uCas (Ab a) hF
 u_c Zg (Ab a) hF
 u_cond false (Ab a) hF
 u_c ZU (Ab a) hF
 u_c stepG_inBlock (Ab a) hF
 u_c stepG_inLoop (Ab a) hF
 refine ZT (λDZ Fv=>?_);replace hF:=Ab a hF Fv;exact⟨a,_,rfl,i!,i!,hF⟩
def dD {P:Zo}(H:WgLib P L){Wg:Nat}{F:(Nat->Prop)->Zb->Prop}{S:Nat->Prop}(a:Gm L.tWg Wg S (F S)){b₀:ZM}{d:Act}{f:Array Oper}{c:Nat}{g:List Nat}{b:List Item}{cs:List ZM}(w:Zb)(hF:F S w/\WgLive L.tWg Wg w):
  Goes P true (Ah L.tWg Wg S) DC0 (AtKd P L.tWg Wg (VW L F Wg (b₀.at d (.inRegion f (c::g)::b)) cs) S) 10
   (G ((base L.wait).at ⟨#[.pointer Wg,Ze,Ze,Ze,Ze,Ze,Ze,Ze,Ze,Ze,Ze,Ze,Ze,Ze,Ze,Ze,Ze,Ze,Ze,Ze,Ze,Ze,Ze,Ze,Ze,Ze,Ze,Ze,Ze,Ze,Ze,Ze,Ze,Ze,Ze,Ze,Ze,Ze,Ze,Ze,Ze,Ze,Ze,Ze,Ze,Ze,Ze,Ze,Ze,Ze,Ze,Ze,Ze,Ze,Ze,Ze,Ze,Ze,Ze,Ze,Ze,Ze,Ze,Ze,Ze,Ze,Ze,Ze,Ze,Ze,Ze,Ze,Ze,Ze,Ze,Ze,Ze,Ze,Ze,Ze,Ze,Ze,Ze,Ze],[]⟩ [.code (body_wait L)]) (b₀.at d (.inRegion f (c::g)::b)::cs)) w:=by
 lib_facts
 simp only[body_wait,waitFn,Zw]
 (repeat u_c Zn (Ab a) hF)
 u_cond true (Ab a) hF
 u_reg (Ab a) hF
 refine ZT (λw₁ e=>?_);replace hF:=Ab a hF e;clear e;refine⟨rfl,_,Zb6 .disable i! rfl rfl n! rfl H.f_disable (x_disable_n L) (x_disable_b L) (x_disable_x L) (x_disable_f L),20,?_⟩
 walk_nrm
 u_c Zg (Ab a) hF
 u_c Zbq (Ab a) hF
 u_c stepG_loop (Ab a) hF
 exact ZT (λw₂ h=>⟨a,_,rfl,i!,i!,Ab a hF h⟩)
end
end Go.Pair
namespace Go.Pair
open Go Go.Conc Go.FA
section
variable {P:Zo}{m:Bool}{ty:Zs}{Wg:Nat}{Stop Stop₂:Cd}
variable {S L T₀ S' L':Nat->Prop}
variable {w w' w₁ w₂ w₀:Zb}
def Ah.sub {T:Nat->Prop}(h:Ah ty Wg T w w₂)(a:∀b,S b->T b):Ah ty Wg S w w₂:=⟨⟨λb c=>h.base.same b (a b c),h.base.size,h.base.os⟩,h.live⟩
variable {g g' a':Zi}
def Be.aeZ {n₀:Nat}{S₀:Nat->Prop}(q:∀b,T₀ b->b<n₀)(H:∀b,S₀ b->T₀ b)(h:Be P m ty Wg S₀ Stop S g w):
  n₀<=w.heap.size->(∀b,S b->S₀ b\/n₀<=b)->(∀b,S₀ b->S b)->
  (∀S g w,(∀b,S b->S₀ b\/n₀<=b)->Stop S g w->Stop₂ (λb=>S b\/T₀ b) g w)->Be P m ty Wg T₀ Stop₂ (λb=>S b\/T₀ b) g w:=by
 induction h with
 |stop h=>
  intro _ k _ p;exact .stop λw₂ n=>p _ _ _ k (h w₂ (n.sub λb c=>.inl c))
 | @step S g w E N t M h _ C=>
  intro F k B p;refine .XS E λw₂ n=>?_;have A:Ah ty Wg S w w₂:=n.sub λb c=>.inl c;obtain⟨s,d⟩:=h w₂ A;have u:n₀<=w₂.heap.size:=Zr F n.base.size;have l:Ib (λb=>S b\/T₀ b) w₂ (t w₂)=λb=>Ib S w₂ (t w₂) b\/T₀ b:=by
   funext b
   apply propext;unfold Ib;constructor
   .rintro((x|x)|x)
    .exact .inl (.inl x)
    .exact .inr x
    exact .inl (.inr x)
   rintro((x|x)|x)
   .exact .inl (.inl x)
   .exact .inr x
   exact .inl (.inr x)
  refine⟨_,_,_,s,⟨d.size,λb c i=>?_,d.os,d.tape,d.output,λe G=>?_⟩,?_⟩
  .refine d.still b c ?_
   rcases i with i|i
   .exact .inl λy=>i (.inl y)
   by_cases j:S b
   .rcases k b j with y|y
    .exact .inr y
    have:=q b i;omega
   exact .inl j
  .have:=d.evs e G
   rw[l];unfold VN at this⊢;have f:∀b,Ib S w₂ (t w₂) b->(e.write=true->¬S₀ b)->e.write=true->¬T₀ b:=by
    intro b c D L v;rcases c with y|y
    .rcases k b y with z|z
     .exact D L z
     have:=q b v;omega
    have:=q b v;omega
   split
   .rename_i a o
    rw[o]at this;exact⟨.inl this.1,f _ this.1 this.2⟩
   .rename_i r o
    rw[o]at this;exact⟨.inl this.1,f _ this.1 this.2⟩
   .trivial
   .trivial
   rename_i s K J I;split at this
   .exact absurd ‹_› (s _)
   .exact absurd ‹_› (K _)
   .exact absurd ‹_› J
   .exact absurd ‹_› I
   exact this
  rw[l];refine C w₂ A (Zr u d.size) (λb c=>?_) (λb c=>.inl (B b c)) p;rcases c with y|y
  .exact k b y
  exact .inr (Zr u y.1)
end
end Go.Pair
namespace Go.Pair
open Go Go.Conc Go.FA
open Go.ConcN (WgLive)
structure Kept (ty:Zs)(Wg:Nat)(T₀:Nat->Prop)(w₀:Zb)(S:Nat->Prop)(w:Zb):Prop where
 sub:∀b,T₀ b->S b/\b<w
 rely:D1 T₀ w₀ w
 oq:¬S Wg
 lt:Wg<w
 live:WgLive ty Wg w
variable {ty:Zs}
variable {p b i j k s' e' m' dd' d KP f' m Wg n:Nat}
variable {w w' w₁ w₂ w₀:Zb}
def WgLive.of_heap (h:WgLive ty Wg w)(e:w₁.heap[Wg]?=w.heap[Wg]?):WgLive ty Wg w₁:=by
 unfold WgLive Go.ConcR.WgAt at*;rw[e];exact h
section
variable {P:Zo}{m:Bool}{ty:Zs}{Wg:Nat}{Stop:Cd}
variable {S L T₀ S' L':Nat->Prop}
def Kept.rel (h:Kept ty Wg T₀ w₀ S w)(a:Ah ty Wg S w w₂):Kept ty Wg T₀ w₀ S w₂:=
 ⟨λb c=>⟨(h.sub b c).1,Zl (h.sub b c).2 a.base.size⟩,h.rely.trans ⟨λb c=>a.base.same b (h.sub b c).1,a.base.size,a.base.os⟩,h.oq,Zl h.lt a.base.size,a.live h.live⟩
def Kept.step {T₀ S:Nat->Prop}{w₀ w w₁:Zb}{es:Array Z9}(h:Kept ty Wg T₀ w₀ S w)(a:LN S T₀ w w₁ es):Kept ty Wg T₀ w₀ (Ib S w w₁) w₁:=by
 refine⟨λb c=>⟨.inl (h.sub b c).1,Zl (h.sub b c).2 a.size⟩,h.rely.trans ⟨λb c=>a.still b (h.sub b c).2 (.inr c),a.size,a.os⟩,?_,Zl h.lt a.size,WgLive.of_heap h.live (a.still Wg h.lt (.inl h.oq))⟩;rintro(x|x)
 .exact h.oq x
 have:=h.lt;omega
variable {g g' a':Zi}
def Be.Ar (h:Be P m ty Wg T₀ Stop S g w):Kept ty Wg T₀ w₀ S w->
  Be P m ty Wg T₀ (λS g w=>Stop S g w/\Kept ty Wg T₀ w₀ S w) S g w:=by
 induction h with
 |stop h=>
  intro b;exact .stop λw₂ a=>⟨h w₂ a,b.rel a⟩
 |step d f i e h _ c=>
  intro b;exact .step d f i e h λw₂ a=>c w₂ a ((b.rel a).step (h w₂ a).2)
end
end Go.Pair
