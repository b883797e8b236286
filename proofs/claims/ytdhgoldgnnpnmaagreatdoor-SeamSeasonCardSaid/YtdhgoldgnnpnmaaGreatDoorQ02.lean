/- Part of a proof. -/
import Derived.Test.YtdhgoldgnnpnmaaGreatDoorQ01
import Derived.Conc.WgGenN3
set_option maxRecDepth 100000
set_option maxHeartbeats 6400000
noncomputable section
set_option linter.all false
open Array renaming mem_of_getElem?->zY,getElem?_eq_some_iff->Za,getElem?_push_lt->Zd3,getElem?_eq_getElem->Zx,getElem?_setIfInBounds_ne->Zk,getElem?_push_size->Zav,getElem?_setIfInBounds_self_of_lt->ZV
open Classical renaming choose->zo,choose_spec->zv
open Go renaming TypeId->Zs,World->Zb,Goroutine->Zi,Program->Zo,Event->Z9,stepG->za,Trace->YZ,HappensBefore->Zbw,mayWake->ZcH,Value->Zf,undef->Ze,FuncId->ZaQ,deafBehind->zV,runNT->ZaE,Frame->ZM
open Go.Act renaming eval->ZbM
open Go.Conc renaming touchAt->ZaR,touch_of->ZbE,getElem?_append_cases->Yy,getElem?_append_old->YS,touchAt_of->Zcv,noRace_append->Zcl,semEvents->Zax,QuitsD->ZcA,served->YU,Deaf_other->Y0,mem_ofEvents->ZQ,crowd->Yj,ofEvents_eq->Zb7,runT_crowd_go->Zb1,aside_setCell->Y8,stepG_seq->Zn,stepG_region_end->Zg,stepG_markAt->ZbN,stepG_mark0->Zb6,stepG_skip->ZU,stepG_add_atomic->Zap,stepG_ret'->z8,stepG_load_atomic->Zbp,stepG_block->Zbq
open Go.Conc.Goes renaming rely->Yb,running->zt,stop->ZT,cases->zT
open Go.ConcN renaming Mode->Ye,Vc_le->ZdS,get_map_set_same->Zbo,get_map_set->Zcb,st_flag->Za6,st_waiters->ZaG
open Go.ConcN.Mode renaming last->Zb4
open Go.ConcR renaming ofEvent_loc_mark->zI,ofEvent_cell->Zc4,ofEvent_mk->Zdq
open Go.Extern.Race renaming none_->Zdn
open Go.IntKind renaming wrap_u64->Zbc,wrap_i32->Za8
open Go.MemAct renaming touch?->Yg,ofEvent->ZR,mark->ZdA
open Go.MemOp renaming ofEvents->ZK
open Go.Sem renaming bind->Zb8
open Go.Trace renaming g?->Zal
open Go.World renaming setChan->ZbS,setCell->Z8
open List renaming mem_append->Zab,map_append->Zai,getElem?_toArray->ZG,getElem?_cons_zero->ZC
open Nat renaming le_refl->Zj,zero_le->Zp,lt_of_lt_of_le->Zl,le_trans->Zr,lt_or_ge->Zar,lt_wfRel->ZdJ,le_of_eq->ZcS,eq_zero_or_pos->zQ,le_of_not_lt->Zdl
open Ne renaming symm->Za0
open Option renaming map_eq_some_iff->zc,map_some->Zdh,getD_some->Zw
open Option.some renaming injEq->ZJ,inj->ZW
open Prod renaming Lex->ZcP,lex->ZcO
open Prod.Lex renaming left->ZaY,right->zB
namespace Go.Pair
open Go Go.Conc Go.FA
open Go.ConcN (PermW fork_knows RelBy Deaf_absent Deaf_still WgLive)
open Go.ConcR (WgAt stA smA)
def Mw (Wg:Nat)(l:Loc):Prop:=∃a:Addr,l=.cell a/\a.block=Wg
def blk:Loc->Option Nat
 | .cell a=>some a.block
 | .obj r=>some r
 |_=>none
structure Ah (ty:Zs)(Wg:Nat)(S:Nat->Prop)(w w₂:Zb):Prop where
 base:D1 S w w₂
 live:WgLive ty Wg w->WgLive ty Wg w₂
section
variable {ty:Zs}{Wg:Nat}{S:Nat->Prop}{w w₁ w₂:Zb}
def Ah.refl (w:Zb):Ah ty Wg S w w:=⟨D1.refl _ _,id⟩
def Ah.trans (h:Ah ty Wg S w w₁)(k:Ah ty Wg S w₁ w₂):Ah ty Wg S w w₂:=⟨h.base.trans k.base,k.live∘h.live⟩
def Ah.at (w:Zb)(d:Nat):Ah ty Wg S w (w.at d):=⟨gw S w d,id⟩
end
def Hu (S:Nat->Prop)(w:Zb):Ib S w w=S:=by
 funext b
 apply propext;unfold Ib;constructor
 .rintro(h|⟨h,k⟩)
  .exact h
  omega
 exact .inl
variable {w w' w₁ w₂ w₀:Zb}
def R8 (S:Nat->Prop){u:Zb}(h:w'.heap.size=u.heap.size):Ib S w w'=Ib S w u:=by
 unfold Ib;rw[h]
abbrev Cd:=(Nat->Prop)->Zi->Zb->Prop
inductive Be (P:Zo)(m:Bool)(ty:Zs)(Wg:Nat)(Lk:Nat->Prop)(Stop:Cd):(Nat->Prop)->Zi->Zb->Prop
 |stop {S:Nat->Prop} {g:Zi} {w:Zb} (h:∀w₂,Ah ty Wg S w w₂->Stop S g w₂):Be P m ty Wg Lk Stop S g w
 |step {S:Nat->Prop} {g:Zi} {w:Zb} (hs:g.status=.running) (GI:Zb->Zi) (EP:Zb->Zb) (I6:Zb->Array Z9)
   (h:∀w₂,Ah ty Wg S w w₂->za P m g w₂=.go (GI w₂) (EP w₂) (I6 w₂)/\LN S Lk w₂ (EP w₂) (I6 w₂)) (k:∀w₂,Ah ty Wg S w w₂->Be P m ty Wg Lk Stop (Ib S w₂ (EP w₂)) (GI w₂) (EP w₂)):Be P m ty Wg Lk Stop S g w
section
variable {P:Zo}{m:Bool}{ty:Zs}{Wg:Nat}{Lk:Nat->Prop}{Stop Stop₂:Cd}{S:Nat->Prop}{g:Zi}{w w₁:Zb}
open Classical in
def Be.XS (hs:g.status=.running)
 (hx:∀w₂,Ah ty Wg S w w₂->∃AH w₁ es,za P m g w₂=.go AH w₁ es/\LN S Lk w₂ w₁ es/\Be P m ty Wg Lk Stop (Ib S w₂ w₁) AH w₁):Be P m ty Wg Lk Stop S g w:=by
 have hy:∀w₂,∃p:Zi×Zb×Array Z9,Ah ty Wg S w w₂->za P m g w₂=.go p.1 p.2.1 p.2.2/\LN S Lk w₂ p.2.1 p.2.2/\Be P m ty Wg Lk Stop (Ib S w₂ p.2.1) p.1 p.2.1:=by
  intro w₂;by_cases h:Ah ty Wg S w w₂
  .obtain⟨AH,w₁,es,h1,h2,h3⟩:=hx w₂ h
   exact⟨(AH,w₁,es),fun _=>⟨h1,h2,h3⟩⟩
  exact⟨(g,w,#[]),fun x=>absurd x h⟩
 refine .step hs (fun w₂=>(zo (hy w₂)).1) (fun w₂=>(zo (hy w₂)).2.1) (fun w₂=>(zo (hy w₂)).2.2) (fun w₂ h=>?_) fun w₂ h=>?_
 .exact⟨(zv (hy w₂) h).1,(zv (hy w₂) h).2.1⟩
 exact(zv (hy w₂) h).2.2
def Be.imp (h:Be P m ty Wg Lk Stop S g w)(hi:∀S g w,Stop S g w->Stop₂ S g w):Be P m ty Wg Lk Stop₂ S g w:=by
 induction h with
 |stop h=>exact .stop fun w₂ Co=>hi _ _ _ (h w₂ Co)
 |step hs GI EP I6 h _ ih=>exact .step hs GI EP I6 h ih
def Be.bind (h:Be P m ty Wg Lk Stop S g w)(hi:∀S g w,(∀w₂,Ah ty Wg S w w₂->Stop S g w₂)->Be P m ty Wg Lk Stop₂ S g w):Be P m ty Wg Lk Stop₂ S g w:=by
 induction h with
 |stop h=>exact hi _ _ _ h
 |step hs GI EP I6 h _ ih=>exact .step hs GI EP I6 h ih
def Be.of_run (h:Xe P m Lk Stop S g w):Be P m ty Wg Lk Stop S g w:=by
 induction h with
 |stop h=>exact .stop fun w₂ Co=>h w₂ Co.base
 |step hs GI EP I6 h _ ih=>exact .step hs GI EP I6 (fun w₂ Co=>h w₂ Co.base) fun w₂ Co=>ih w₂ Co.base
def jC (S Lk:Nat->Prop)(w:Zb):LN S Lk w w #[]:=⟨Zj _,fun _ _ _=>rfl,rfl,rfl,rfl,fun e he=>by simp at he⟩
def Be.G2 {St:Cd}:∀ {n:Nat} {g:Zi} {w:Zb},Goes P m (Ah ty Wg S) Go.ConcR.DC0 (St S) n g w->Be P m ty Wg Lk St S g w:=by
 intro n
 induction n with
 |zero=>intro g w h;exact .stop h
 |succ n ih=>
  intro g w h;rcases h with h|⟨hs,h⟩
  .exact .stop h
  refine .XS hs fun w₂ hr=>?_;have:=h w₂ hr;cases hx:za P m g w₂ with
  |go AH w₁ es=>
   rw[hx,goes_go]at this;obtain⟨⟨rfl,rfl⟩,hg⟩:=this;exact⟨_,_,_,rfl,jC _ _ _,by rw[Hu];exact ih hg⟩
  |_=>rw[hx]at this;exact this.elim
abbrev St:=(Nat->Prop)×Zi×Zb
def Child (P:Zo)(ty:Zs)(Wg:Nat)(y x:Bool×Cd×St):Prop:=
 y.1=x.1/\y.2.1=x.2.1/\(¬∀w₂,Ah ty Wg x.2.2.1 x.2.2.2.2 w₂->x.2.1 x.2.2.1 x.2.2.2.1 w₂)/\
  ∃w₂ es,Ah ty Wg x.2.2.1 x.2.2.2.2 w₂/\za P x.1 x.2.2.2.1 w₂=.go y.2.2.2.1 y.2.2.2.2 es/\y.2.2.1=Ib x.2.2.1 w₂ y.2.2.2.2
def Be.acc (h:Be P m ty Wg Lk Stop S g w):Acc (Child P ty Wg) (m,Stop,S,g,w):=by
 induction h with
 |stop h=>exact⟨_,fun y hy=>absurd h hy.2.2.1⟩
 | @step S g w hs GI EP I6 h _ ih=>
  refine⟨_,fun y hy=>?_⟩;obtain⟨m',St',S',g',w'⟩:=y;obtain⟨h1,h2,_,w₂,es,hr,B_,hS⟩:=hy;dsimp only at h1 h2 hr B_ hS;subst h1 h2;rw[(h w₂ hr).1]at B_;cases B_;rw[hS];exact ih w₂ hr
def Fuel (P:Zo)(ty:Zs)(Wg:Nat):Type:= {x:Bool×Cd×St // Acc (Child P ty Wg) x}
def Fuel.lt {P:Zo}{ty:Zs}{Wg:Nat}(a b:Fuel P ty Wg):Prop:=Child P ty Wg a.1 b.1
def Fuel.wf (P:Zo)(ty:Zs)(Wg:Nat):WellFounded (@Fuel.lt P ty Wg):=by
 refine⟨fun⟨x,hx⟩=>?_⟩
 induction hx with
 |intro x hx ih=>
  exact⟨_,fun⟨y,hy⟩ Az=>ih y Az⟩
end
def Be.fuel {P:Zo}{m:Bool}{ty:Zs}{Wg:Nat}{Lk:Nat->Prop}{Stop:Cd}{S:Nat->Prop}{g:Zi}{w:Zb}(h:Be P m ty Wg Lk Stop S g w):Fuel P ty Wg:=⟨(m,Stop,S,g,w),h.acc⟩
section
def Fuel.none (P:Zo)(ty:Zs)(Wg:Nat):Fuel P ty Wg:=
 ⟨(false,fun _ _ _=>True,fun _=>False,default,default),⟨_,fun _ hy=>absurd (fun _ _=>trivial) hy.2.2.1⟩⟩
end
end Go.Pair
namespace Go.Pair
open Go Go.Conc Go.FA
open Go.ConcN (PermW fork_knows RelBy Deaf_absent Deaf_still)
open Go.ConcR (WgAt stA smA g_of_ofEvents)
def ix (K:Nat):Nat->Nat
 |0=>0
 |i+1=>K+i
structure JJ where
 S:Nat->Nat->Prop
 L:Nat->Nat->Prop
structure TI (K Wg:Nat)(Shun:Loc->Prop)(H:JJ)(j n:Nat)(t:YZ):Prop where
 nr:∀said,¬Race said t
 seen:∀op∈t,op.act.low n
 kn:∀i a,ZaR t i=some a->a.loc.isMemory=true->Knows t 0 i\/(Shun a.loc/\a.kind=.atomic)\/∃p,1<=p/\p<=j/\t.g? i=some (ix K p)
 pw:∀p,p<=j->∀b,H.S p b->∀l,blk l=some b->PermW t (ix K p) l
 pr:∀p,p<=j->∀b,H.S p b->¬H.L p b->∀l,blk l=some b->Perm t (ix K p) l
 wq:∀i a,ZaR t i=some a->Mw Wg a.loc->(a.kind=.plain->∀p,p<=j->Knows t (ix K p) i)/\(a.kind=.said->Knows t 0 i)
 ov:∀i g,t.g? i=some g->g≠0->t.counts i->(∃k,t.g? k=some 0/\Zbw t i k)\/∃p,1<=p/\p<=j/\g=ix K p
structure Apt (Wg:Nat)(H:JJ)(j n:Nat):Prop where
 two:∀p q,p<=j->q<=j->p≠q->∀b,H.S p b->H.S q b->H.L p b
 wg:∀p,p<=j->¬H.S p Wg
 low:∀p,p<=j->∀b,H.S p b->b<n
def JJ.set (H:JJ)(p:Nat)(S L:Nat->Prop):JJ:=⟨fun q=>if q=p then S else H.S q,fun q=>if q=p then L else H.L q⟩
section
variable {K Wg:Nat}{Shun:Loc->Prop}{H:JJ}{j n n':Nat}{t u:YZ}
def A6 (p:Nat)(S L:Nat->Prop):(H.set p S L).S p=S/\(H.set p S L).L p=L:=by simp[JJ.set]
variable {p b i k s' e' m' dd' d KP f' m:Nat}
def BB {q:Nat}(h:q≠p)(S L:Nat->Prop):(H.set p S L).S q=H.S q/\(H.set p S L).L q=H.L q:=by simp[JJ.set,h]
variable {l:Loc}
def sX (h:blk l=some b){B:Nat}:l.low B↔b<B:=by
 cases l<;>simp[blk]at h<;>subst h<;>rfl
variable {a:Touch}
def UF (h:∀op∈t,op.act.low n)(ha:ZaR t i=some a)(hb:blk a.loc=some b)(hn:n<=b):False:=by
 obtain⟨x,hx,VS⟩:=ZbE ha;have:=h x (zY hx);generalize x.act=act at this VS;cases act with
 |access e=>
  simp only[Yg,ZJ]at VS;subst VS;have:=(sX hb).1 this;omega
 |mark m=>
  cases m<;>simp only[Yg,ZJ,reduceCtorEq]at VS
  all_goals
   subst VS;simp only[blk,ZJ]at hb;have:_<n:=this;omega
 |_=>simp[Yg]at VS
def dz (h:∀i g,t.g? i=some g->g≠0->t.counts i->(∃k,t.g? k=some 0/\Zbw t i k)\/∃p,1<=p/\p<=j/\g=ix K p)(hu:∀op∈u,op.g=0\/(∃p,1<=p/\p<=j/\op.g=ix K p)\/op.act.touch?=none):
  ∀i g,(t++u).g? i=some g->g≠0->(t++u).counts i->(∃k,(t++u).g? k=some 0/\Zbw (t++u) i k)\/∃p,1<=p/\p<=j/\g=ix K p:=by
 intro i g hg BL hc;have OJ:=hc;obtain⟨x,hx,_⟩:=OJ;obtain⟨op,hop,hox⟩:=ZbE hx;rcases Yy hop with⟨hi,jr⟩|⟨_,al4⟩
 .rcases h i g (by simpa[Zal,YS hi]using hg) BL ((counts_old hi).1 hc) with⟨k,hk,hb⟩|z
  .have lQ:k<t.size:=by
    unfold Zal at hk;obtain⟨z,hz,_⟩:=zc.1 hk;exact lt_size_of_getElem? hz
   exact .inl ⟨k,by simpa[Zal,YS lQ]using hk,hb_app u hb⟩
  exact .inr z
 have hgo:op.g=g:=by simpa[Zal,hop]using hg
 rcases hu op al4 with h0|⟨p,h1,h2,h3⟩|h0
 .exact absurd (hgo.symm.trans h0) BL
 .exact .inr ⟨p,h1,h2,hgo.symm.trans h3⟩
 rw[h0]at hox;cases hox
variable {S L T₀ S' L':Nat->Prop}
def TI.grow (h:TI K Wg Shun H j n t)(hn:n<=n')(hS:∀b,S b->H.S p b\/n<=b)(hL:∀b,H.L p b->S b->L b):TI K Wg Shun (H.set p S L) j n' t:=by
 refine⟨h.nr,fun op hop=>MemAct.low_mono hn (h.seen op hop),h.kn,fun q hq b hb l hl=>?_,fun q hq b hb Qa l hl=>?_,h.wq,h.ov⟩
 .by_cases e:q=p
  .subst e
   rw[(A6 q S L).1]at hb;rcases hS b hb with x|x
   .exact h.pw q hq b x l hl
   exact fun i a ha e _=>(UF h.seen ha (e▸hl) x).elim
  rw[(BB e S L).1]at hb;exact h.pw q hq b hb l hl
 by_cases e:q=p
 .subst e
  rw[(A6 q S L).1]at hb;rw[(A6 q S L).2]at Qa;rcases hS b hb with x|x
  .exact h.pr q hq b x (fun y=>Qa (hL b y hb)) l hl
  exact fun i a ha e=>(UF h.seen ha (e▸hl) x).elim
 rw[(BB e S L).1]at hb;rw[(BB e S L).2]at Qa;exact h.pr q hq b hb Qa l hl
def Fj (h:blk l=some b):l.isMemory=true:=by
 cases l<;>simp[blk]at h<;>rfl
def KQ (h:Mw Wg l):blk l=some Wg:=by
 obtain⟨a,rfl,rfl⟩:=h;rfl
def TI.app (h:TI K Wg Shun H j n t)(A:Apt Wg H j n)(hp:p<=j)(hg:∀op∈u,op.g=ix K p)(hl:∀op∈u,op.act.low n)
 (ho:∀op∈u,∀x,op.act.touch?=some x->(Mw Wg x.loc/\x.kind≠ .plain/\(x.kind=.said->p=0))\/(∃b,blk x.loc=some b/\H.S p b/\(x.write=true->¬H.L p b))\/x.loc.isMemory=false):TI K Wg Shun H j n (t++u):=by
 have own:∀ {i:Nat} {a:Touch},ZaR (t++u) i=some a->(i<t.size/\ZaR t i=some a)\/(Knows (t++u) (ix K p) i/\(t++u).g? i=some (ix K p)/\∃op∈u,op.act.touch?=some a):=by
  intro i a ha;obtain⟨x,hx,VS⟩:=ZbE ha;rcases Yy hx with⟨hi,n6⟩|⟨_,hxu⟩
  .exact .inl ⟨hi,by rw[Zcv n6];exact VS⟩
  have:=knows_own hx;rw[hg x hxu]at this;exact .inr ⟨this,by simp[Zal,hx,hg x hxu],x,hxu,VS⟩
 refine⟨fun said=>Zcl (h.nr said) hg fun i a ha op hop b hb hc=>?_,seen_app h.seen hl,fun i a ha hm=>?_,fun q hq b hb l Ka=>(h.pw q hq b hb l Ka).app fun op hop x hx e hw=>?_,
  fun q hq b hb Qa l Ka=>(h.pr q hq b hb Qa l Ka).app fun op hop x hx e=>?_,fun i a ha hw=>?_,dz h.ov fun op hop=>?_⟩
 .obtain⟨he,hm,hw,hk⟩:=hc
  rcases ho op hop b hb with⟨h1,h2,h3⟩|⟨c,h1,h2,h3⟩|h1
  .have:=h.wq i a ha (he▸h1)
   rcases hk with k|k|⟨_,k,k'⟩
   .exact this.1 k p hp
   .exact absurd k h2
   have hp0:=h3 k';subst hp0;exact this.2 k
  .cases GK:b.write with
   |true=>exact h.pr p hp c h2 (h3 GK) b.loc h1 i a ha he
   |false=>
    have:a.write=true:=by
     rcases hw with x|x
     .exact x
     rw[GK]at x;cases x
    exact h.pw p hp c h2 b.loc h1 i a ha he this
  .rw[<-he]at h1
   rw[h1]at hm;cases hm
 .rcases own ha with⟨hi,ha'⟩|⟨hk,n8,op,hop,hx⟩
  .rcases h.kn i a ha' hm with x|x|⟨q,h1,h2,h3⟩
   .exact .inl (x.app u)
   .exact .inr (.inl x)
   refine .inr (.inr ⟨q,h1,h2,?_⟩);simpa[Zal,YS hi]using h3
  cases p with
  |zero=>exact .inl hk
  |succ p=>exact .inr (.inr ⟨p+1,by omega,hp,n8⟩)
 .by_cases epq:p=q
  .subst epq;exact hg op hop
  exfalso;rcases ho op hop x hx with⟨h1,_⟩|⟨c,h1,h2,h3⟩|h1
  .rw[e]at h1
   have:=KQ h1;rw[Ka]at this;cases this;exact A.wg q hq hb
  .rw[e,Ka]at h1
   cases h1;exact h3 hw (A.two p q hp hq epq b h2 hb)
  rw[e,Fj Ka]at h1;cases h1
 .by_cases epq:p=q
  .subst epq;exact hg op hop
  exfalso;rcases ho op hop x hx with⟨h1,_⟩|⟨c,h1,h2,h3⟩|h1
  .rw[e]at h1
   have:=KQ h1;rw[Ka]at this;cases this;exact A.wg q hq hb
  .rw[e,Ka]at h1
   cases h1;exact Qa (A.two q p hq hp (Za0 epq) b hb h2)
  rw[e,Fj Ka]at h1;cases h1
 .rcases own ha with⟨hi,ha'⟩|⟨hk,n8,op,hop,hx⟩
  .exact⟨fun x q hq=>((h.wq i a ha' hw).1 x q hq).app u,fun x=>((h.wq i a ha' hw).2 x).app u⟩
  rcases ho op hop a hx with⟨_,h2,h3⟩|⟨c,h1,h2,_⟩|h1
  .refine⟨fun x=>absurd x h2,fun x=>?_⟩
   have:=h3 x;subst this;exact hk
  .rw[KQ hw]at h1
   cases h1;exact absurd h2 (A.wg p hp)
  rw[Fj (KQ hw)]at h1;cases h1
 rw[hg op hop];cases p with
 |zero=>exact .inl rfl
 |succ p=>exact .inr (.inl ⟨p+1,by omega,hp,rfl⟩)
def TI.mute (h:TI K Wg Shun H j n t){g:Nat}(hg:∀op∈u,op.g=g)(hl:∀op∈u,op.act.low n)(hn:∀op∈u,op.act.touch?=none):TI K Wg Shun H j n (t++u):=by
 have old:∀ {i:Nat} {a:Touch},ZaR (t++u) i=some a->i<t.size/\ZaR t i=some a:=by
  intro i a ha;obtain⟨z,hz,hza⟩:=ZbE ha;rcases Yy hz with⟨hi,hz'⟩|⟨_,hzu⟩
  .exact⟨hi,by rw[Zcv hz'];exact hza⟩
  rw[hn z hzu]at hza;cases hza
 refine⟨fun said=>Zcl (h.nr said) hg fun i a _ op hop b hb _=>(by rw[hn op hop]at hb;cases hb),seen_app h.seen hl,fun i a ha hm=>?_,fun q hq b hb l Ka=>(h.pw q hq b hb l Ka).app fun op hop x hx _ _=>(by rw[hn op hop]at hx;cases hx),
  fun q hq b hb Qa l Ka=>(h.pr q hq b hb Qa l Ka).app fun op hop x hx _=>(by rw[hn op hop]at hx;cases hx),fun i a ha hw=>?_,dz h.ov fun op hop=>.inr (.inr (hn op hop))⟩
 .obtain⟨hi,ha'⟩:=old ha
  rcases h.kn i a ha' hm with x|x|⟨q,h1,h2,h3⟩
  .exact .inl (x.app u)
  .exact .inr (.inl x)
  refine .inr (.inr ⟨q,h1,h2,?_⟩);simpa[Zal,YS hi]using h3
 obtain⟨hi,ha'⟩:=old ha;exact⟨fun x q hq=>((h.wq i a ha' hw).1 x q hq).app u,fun x=>((h.wq i a ha' hw).2 x).app u⟩
variable {x y:MemOp}
def TI.fork (h:TI K Wg Shun H j n t)(hx:x.g=0/\x.act=.go (K+j))(hy:y.g=K+j/\y.act=.start)(h0:Deaf t 0=0)(hk:Deaf t (K+j)=0):
  TI K Wg Shun ((H.set (j+1) (H.S 0) (H.S 0)).set 0 (H.S 0) (H.S 0)) (j+1) n (t++ #[x,y]):=by
 have hm:∀op∈#[x,y],op=x\/op=y:=by intro op hop;simpa using hop
 have wi:∀op∈#[x,y],op.act.touch?=none:=by
  intro op hop;rcases hm op hop with rfl|rfl
  .rw[hx.2];rfl
  rw[hy.2];rfl
 have old:∀ {i:Nat} {a:Touch},ZaR (t++ #[x,y]) i=some a->i<t.size/\ZaR t i=some a:=by
  intro i a ha;obtain⟨z,hz,hza⟩:=ZbE ha;rcases Yy hz with⟨hi,hz'⟩|⟨_,hzu⟩
  .exact⟨hi,by rw[Zcv hz'];exact hza⟩
  rw[wi z hzu]at hza;cases hza
 have fk:∀ {i:Nat},Knows t 0 i->Knows (t++ #[x,y]) (K+j) i:=fun h=>fork_knows hx hy h0 hk h;have hw:∀q,q<=j+1->∀b,((H.set (j+1) (H.S 0) (H.S 0)).set 0 (H.S 0) (H.S 0)).S q b->∀l,blk l=some b->PermW (t++ #[x,y]) (ix K q) l:=by
  intro q hq b hb l hl i a ha e yY;obtain⟨_,ha'⟩:=old ha;by_cases e0:q=0
  .subst e0
   rw[(A6 0 _ _).1]at hb;exact(h.pw 0 (Zp _) b hb l hl i a ha' e yY).app _
  rw[(BB e0 _ _).1]at hb;by_cases e1:q=j+1
  .subst e1
   rw[(A6 _ _ _).1]at hb;exact fk (h.pw 0 (Zp _) b hb l hl i a ha' e yY)
  rw[(BB e1 _ _).1]at hb;exact(h.pw q (by omega) b hb l hl i a ha' e yY).app _
 refine⟨fun said=>?_,seen_app h.seen (fun op hop=>?_),fun i a ha hmm=>?_,hw,fun q hq b hb Qa l hl=>?_,fun i a ha Dk=>?_,fun i g n8 BL hc=>?_⟩
 .have e:t++ #[x,y]=(t++ #[x])++ #[y]:=by apply Array.ext';simp
  rw[e];refine Zcl (g:=K+j) (Zcl (g:=0) (h.nr said) (fun op hop=>by simp at hop;rw[hop];exact hx.1) (fun i a _ op hop b hb _=>(by rw[wi op (by simp at hop⊢;exact .inl hop)]at hb;cases hb)))
   (fun op hop=>by simp at hop;rw[hop];exact hy.1) (fun i a _ op hop b hb _=>(by rw[wi op (by simp at hop⊢;exact .inr hop)]at hb;cases hb))
 .rcases hm op hop with rfl|rfl
  .rw[hx.2];trivial
  rw[hy.2];trivial
 .obtain⟨hi,ha'⟩:=old ha
  rcases h.kn i a ha' hmm with z|z|⟨q,h1,h2,h3⟩
  .exact .inl (z.app _)
  .exact .inr (.inl z)
  refine .inr (.inr ⟨q,h1,by omega,?_⟩);simpa[Zal,YS hi]using h3
 .by_cases e0:q=0
  .subst e0
   rw[(A6 0 _ _).1]at hb;rw[(A6 0 _ _).2]at Qa;exact absurd hb Qa
  rw[(BB e0 _ _).1]at hb;rw[(BB e0 _ _).2]at Qa;by_cases e1:q=j+1
  .subst e1
   rw[(A6 _ _ _).1]at hb;rw[(A6 _ _ _).2]at Qa;exact absurd hb Qa
  rw[(BB e1 _ _).1]at hb;rw[(BB e1 _ _).2]at Qa;intro i a ha e;exact(h.pr q (by omega) b hb Qa l hl i a (old ha).2 e).app _
 .obtain⟨hi,ha'⟩:=old ha
  refine⟨fun z q hq=>?_,fun z=>((h.wq i a ha' Dk).2 z).app _⟩;by_cases e1:q=j+1
  .subst e1
   exact fk ((h.wq i a ha' Dk).1 z 0 (Zp _))
  exact((h.wq i a ha' Dk).1 z q (by omega)).app _
 rcases dz h.ov (fun op hop=>.inr (.inr (wi op hop))) i g n8 BL hc with z|⟨p,h1,h2,h3⟩
 .exact .inl z
 exact .inr ⟨p,h1,by omega,h3⟩
def TI.sY (h:Past Shun n t)(hS:∀b,H.S 0 b->b<n/\∀l,blk l=some b->¬Shun l)(hWg:∀l,Mw Wg l->¬Shun l):TI K Wg Shun H 0 n t:=by
 have kn:∀b,(∀l,blk l=some b->¬Shun l)->∀l,blk l=some b->Perm t 0 l:=by
  intro b hb l hl i a ha e;rcases h.known i a ha (by rw[e];exact Fj hl) with x|⟨x,_⟩
  .exact x
  exact absurd (e▸x) (hb l hl)
 refine⟨h.clean,h.seen,fun i a ha hm=>(h.known i a ha hm).imp id .inl,fun p hp b hb l hl=>?_,fun p hp b hb _ l hl=>?_,fun i a ha hw=>?_,fun i g h1 h2 h3=>.inl (h.over i g h1 h2 h3)⟩
 .obtain rfl:p=0:=by omega
  exact PermW.of (kn b (hS b hb).2 l hl)
 .obtain rfl:p=0:=by omega
  exact kn b (hS b hb).2 l hl
 have k:Knows t 0 i:=by
  rcases h.known i a ha (Fj (KQ hw)) with x|⟨x,_⟩
  .exact x
  exact absurd x (hWg _ hw)
 refine⟨fun _ p hp=>?_,fun _=>k⟩;obtain rfl:p=0:=by omega
 exact k
end
end Go.Pair
namespace Go.Pair
open Go Go.Conc Go.FA
open Go.ConcN (PermW RelBy WgLive CTag phi pend isOpen isW3 isFin OpenSt AllQuit Mode WD Vc Ssum Fsum cnt sumTo upd)
open Go.ConcR (KK WgAt stA smA rd wr mk DC0 Bk)
section
variable(P:Zo)(ty:Zs)(Wg Ch:Nat)
section
variable(S:Nat->Prop)
def AtD4 (g:Zi)(w:Zb):Prop:=
 g.status=.running/\ZcH P g=true/\(WgAt ty Wg w 0 0->∃g',za P false g w=.go g' (w.setCell (smA Wg) (.int .u32 1)) (Zax (smA Wg))/\∃q,ZcA P q 1 g')
def AtD3 (g:Zi)(w:Zb):Prop:=
 g.status=.running/\(WgAt ty Wg w 1 0->∃g',za P false g w=.go g' (w.setCell (stA Wg) (.int .u64 0)) #[wr (stA Wg)]/\∃m,Goes P false (Ah ty Wg S) DC0 (AtD4 P ty Wg) m g' (w.setCell (stA Wg) (.int .u64 0)))
def AtD2 (g:Zi)(w:Zb):Prop:=
 g.status=.running/\(WgAt ty Wg w 1 0->∃g',za P false g w=.go g' w #[rd (stA Wg)]/\∃m,Goes P false (Ah ty Wg S) DC0 (AtD3 P ty Wg S) m g' w)
def AtD1 (g:Zi)(w:Zb):Prop:=
 g.status=.running/\∀v wt:Nat,wt<=1->v<2147483647->WgAt ty Wg w ((v+1)*KK+wt) 0->
  ∃g',za P false g w=.go g' (w.setCell (stA Wg) (.int .u64 (v*KK+wt))) #[rd (stA Wg),wr (stA Wg)]/\
   ((v=0/\wt=1)->∃m,Goes P false (Ah ty Wg S) DC0 (AtD2 P ty Wg S) m g' (w.setCell (stA Wg) (.int .u64 (v*KK+wt))))/\(¬(v=0/\wt=1)->∃q,ZcA P q 1 g')
def AtK1 (g:Zi)(w:Zb):Prop:=
 g.status=.running/\∃g',za P false g w=.go g' w #[mk .disable]/\∃m,Goes P false (Ah ty Wg S) DC0 (AtD1 P ty Wg S) m g' w
def AtR0 (g:Zi)(w:Zb):Prop:=
 g.status=.running/\∃g',za P false g w=.go g' w #[mk (.releaseMerge (stA Wg))]/\∃m,Goes P false (Ah ty Wg S) DC0 (AtK1 P ty Wg S) m g' w
end
abbrev Gk:=(Nat->Prop)->Zf->Zb->Prop
def AtSend (Pay:Gk):Cd:=fun S g w=>
 g.status=.running/\∃Bs v z,za P false g w=.comm Bs #[scase Ch v z] true .send w #[]/\Pay S v w/\∃m,Goes P false (Ah ty Wg S) DC0 (AtR0 P ty Wg S) m (YU Bs Ze) w
section
variable(Anch AO:Cd)(S:Nat->Prop)
def AtAcq (g:Zi)(w:Zb):Prop:=
 g.status=.running/\∃g',za P true g w=.go g' w #[mk (.acquire (stA Wg))]/\∃m,Goes P true (Ah ty Wg S) DC0 (Anch S) m g' w
def AtKe (g:Zi)(w:Zb):Prop:=
 g.status=.running/\∃g',za P true g w=.go g' w #[mk .enable]/\∃m,Goes P true (Ah ty Wg S) DC0 (AtAcq P ty Wg Anch S) m g' w
def AtW4 (g:Zi)(w:Zb):Prop:=
 g.status=.running/\(WgAt ty Wg w 0 0->∃g',za P true g w=.go g' w #[rd (stA Wg)]/\∃m,Goes P true (Ah ty Wg S) DC0 (AtKe P ty Wg Anch S) m g' w)
def AtW3 (g:Zi)(w:Zb):Prop:=
 g.status=.running/\g.offers=none/\
  ((∃st,WgAt ty Wg w st 0)->za P true g w=.go {g with status:=.blocked} w #[])/\
  (WgAt ty Wg w 0 1->∃g',za P true g w=.go g' (w.setCell (smA Wg) (.int .u32 0)) (Zax (smA Wg))/\∃m,Goes P true (Ah ty Wg S) DC0 (AtW4 P ty Wg Anch S) m g' (w.setCell (smA Wg) (.int .u32 0)))
def aeK (g:Zi)(w:Zb):Prop:=
 g.status=.running/\∃g',za P true g w=.go g' w #[mk (.write (smA Wg))]/\∃m,Goes P true (Ah ty Wg S) DC0 (AtW3 P ty Wg Anch S) m g' w
def AtW2 (vs:Nat)(g:Zi)(w:Zb):Prop:=
 g.status=.running/\∀v:Nat,v<2147483648->WgAt ty Wg w (v*KK) 0->
  (v=vs->∃g',za P true g w=.go g' (w.setCell (stA Wg) (.int .u64 (v*KK+1))) #[rd (stA Wg),wr (stA Wg)]/\∃m,Goes P true (Ah ty Wg S) DC0 (aeK P ty Wg Anch S) m g' (w.setCell (stA Wg) (.int .u64 (v*KK+1))))/\
  (v≠vs->∃g',za P true g w=.go g' w #[rd (stA Wg)]/\∃m,Goes P true (Ah ty Wg S) DC0 (AO S) m g' w)
def AtW1 (g:Zi)(w:Zb):Prop:=
 g.status=.running/\∀v:Nat,v<2147483648->WgAt ty Wg w (v*KK) 0->∃g',za P true g w=.go g' w #[rd (stA Wg)]/\
  (v=0->∃m,Goes P true (Ah ty Wg S) DC0 (AtKe P ty Wg Anch S) m g' w)/\(v≠0->∃m,Goes P true (Ah ty Wg S) DC0 (AtW2 P ty Wg Anch AO S v) m g' w)
end
def AtKd (AO:Cd):Cd:=fun S g w=>
 g.status=.running/\∃g',za P true g w=.go g' w #[mk .disable]/\∃m,Goes P true (Ah ty Wg S) DC0 (AO S) m g' w
section
variable(Pay:Gk)(Next:Cd)(S:Nat->Prop)
def AtGoS (g:Zi)(w:Zb):Prop:=
 g.status=.running/\∃g' child,za P true g w=.spawn g' child w #[]/\Be P false ty Wg S (AtSend P ty Wg Ch Pay) S child w/\Next S g' w
def AtKeS (g:Zi)(w:Zb):Prop:=
 g.status=.running/\∃g',za P true g w=.go g' w #[mk .enable]/\∃m,Goes P true (Ah ty Wg S) DC0 (AtGoS P ty Wg Ch Pay Next S) m g' w
def aeL (g:Zi)(w:Zb):Prop:=
 g.status=.running/\∃g',za P true g w=.go g' w #[mk (.read (smA Wg))]/\∃m,Goes P true (Ah ty Wg S) DC0 (AtKeS P ty Wg Ch Pay Next S) m g' w
def AtA1 (g:Zi)(w:Zb):Prop:=
 g.status=.running/\∀v:Nat,v<2147483647->WgAt ty Wg w (v*KK) 0->
  ∃g',za P true g w=.go g' (w.setCell (stA Wg) (.int .u64 ((v+1)*KK))) #[rd (stA Wg),wr (stA Wg)]/\
   (v=0->∃m,Goes P true (Ah ty Wg S) DC0 (aeL P ty Wg Ch Pay Next S) m g' (w.setCell (stA Wg) (.int .u64 ((v+1)*KK))))/\(v≠0->∃m,Goes P true (Ah ty Wg S) DC0 (AtKeS P ty Wg Ch Pay Next S) m g' (w.setCell (stA Wg) (.int .u64 ((v+1)*KK))))
end
def AtKdS (Pay:Gk)(Next:Cd):Cd:=fun S g w=>
 g.status=.running/\∃g',za P true g w=.go g' w #[mk .disable]/\∃m,Goes P true (Ah ty Wg S) DC0 (AtA1 P ty Wg Ch Pay Next S) m g' w
def wj (Pay:Nat->Gk)(n:Nat)(AO:Cd):Nat->Cd
 |0=>fun S g w=>Be P true ty Wg S (AtKd P ty Wg AO) S g w
 |r+1=>fun S g w=>Be P true ty Wg S (AtKdS P ty Wg Ch (Pay (n - (r+1))) (wj Pay n AO r)) S g w
end
section
variable(P:Zo)(ty:Zs)(Wg Ch:Nat)
inductive WSit (Pay:Gk)(S L:Nat->Prop):Nat->Nat->Nat->Nat->Fuel P ty Wg->Zi->Zb->Prop
 |wk {g:Zi} {w x:Zb} (h:Be P false ty Wg L (AtSend P ty Wg Ch Pay) S g x) (hr:Ah ty Wg S x w):WSit Pay S L 7 1 0 0 h.fuel g w
 |r0 {X:Fuel P ty Wg} {m:Nat} {g:Zi} {w:Zb}:Goes P false (Ah ty Wg S) DC0 (AtR0 P ty Wg S) m g w->WSit Pay S L 7 0 m 0 X g w
 |k1 {X:Fuel P ty Wg} {m:Nat} {g:Zi} {w:Zb}:Goes P false (Ah ty Wg S) DC0 (AtK1 P ty Wg S) m g w->WSit Pay S L 6 0 m 0 X g w
 |d1 {X:Fuel P ty Wg} {m:Nat} {g:Zi} {w:Zb}:Goes P false (Ah ty Wg S) DC0 (AtD1 P ty Wg S) m g w->WSit Pay S L 5 0 m 1 X g w
 |d2 {X:Fuel P ty Wg} {m:Nat} {g:Zi} {w:Zb}:Goes P false (Ah ty Wg S) DC0 (AtD2 P ty Wg S) m g w->WSit Pay S L 4 0 m 1 X g w
 |d3 {X:Fuel P ty Wg} {m:Nat} {g:Zi} {w:Zb}:Goes P false (Ah ty Wg S) DC0 (AtD3 P ty Wg S) m g w->WSit Pay S L 3 0 m 1 X g w
 |d4 {X:Fuel P ty Wg} {m:Nat} {g:Zi} {w:Zb}:Goes P false (Ah ty Wg S) DC0 (AtD4 P ty Wg) m g w->WSit Pay S L 2 0 m 1 X g w
 |quit {X:Fuel P ty Wg} {q d:Nat} {g:Zi} {w:Zb}:ZcA P q d g->WSit Pay S L 1 0 q d X g w
section
variable(Pay:Nat->Gk)(Anch AO:Cd)(S L:Nat->Prop)
inductive CSit:CTag->Nat->Nat->Nat->Fuel P ty Wg->Nat->Zi->Zb->Prop
 |skd {r:Nat} {g:Zi} {w x:Zb} (hr:r<2) (h:Be P true ty Wg L (AtKdS P ty Wg Ch (Pay (2 - (r+1))) (wj P ty Wg Ch Pay 2 AO r)) S g x) (hw:Ah ty Wg S x w):CSit (.sp r 5) 1 (2 - (r+1)) 0 h.fuel 0 g w
 |sa1 {X:Fuel P ty Wg} {r m:Nat} {g:Zi} {w:Zb}:r<2->Goes P true (Ah ty Wg S) DC0 (AtA1 P ty Wg Ch (Pay (2 - (r+1))) (wj P ty Wg Ch Pay 2 AO r) S) m g w->CSit (.sp r 4) 1 (2 - (r+1)) m X 1 g w
 |ssr {X:Fuel P ty Wg} {r m:Nat} {g:Zi} {w:Zb}:r<2->Goes P true (Ah ty Wg S) DC0 (aeL P ty Wg Ch (Pay (2 - (r+1))) (wj P ty Wg Ch Pay 2 AO r) S) m g w->CSit (.sp r 3) 1 (2 - (r+1)) m X 1 g w
 |ske {X:Fuel P ty Wg} {r m:Nat} {g:Zi} {w:Zb}:r<2->Goes P true (Ah ty Wg S) DC0 (AtKeS P ty Wg Ch (Pay (2 - (r+1))) (wj P ty Wg Ch Pay 2 AO r) S) m g w->CSit (.sp r 3) 0 (2 - (r+1)) m X 1 g w
 |sgo {X:Fuel P ty Wg} {r m:Nat} {g:Zi} {w:Zb}:r<2->Goes P true (Ah ty Wg S) DC0 (AtGoS P ty Wg Ch (Pay (2 - (r+1))) (wj P ty Wg Ch Pay 2 AO r) S) m g w->CSit (.sp r 2) 0 (2 - (r+1)) m X 0 g w
 |kd {g:Zi} {w x:Zb} (h:Be P true ty Wg L (AtKd P ty Wg AO) S g x) (hw:Ah ty Wg S x w):CSit .kd 0 2 0 h.fuel 0 g w
 |anch {X:Fuel P ty Wg} {m:Nat} {g:Zi} {w:Zb}:Goes P true (Ah ty Wg S) DC0 (AO S) m g w->CSit .anch 0 2 m X 1 g w
 |w1 {X:Fuel P ty Wg} {m:Nat} {g:Zi} {w:Zb}:Goes P true (Ah ty Wg S) DC0 (AtW1 P ty Wg Anch AO S) m g w->CSit .w1 0 2 m X 1 g w
 |w2 {X:Fuel P ty Wg} {vs m:Nat} {g:Zi} {w:Zb}:Goes P true (Ah ty Wg S) DC0 (AtW2 P ty Wg Anch AO S vs) m g w->CSit (.w2 vs) 0 2 m X 1 g w
 |sw {X:Fuel P ty Wg} {m:Nat} {g:Zi} {w:Zb}:Goes P true (Ah ty Wg S) DC0 (aeK P ty Wg Anch S) m g w->CSit .w3 1 2 m X 1 g w
 |w3 {X:Fuel P ty Wg} {m:Nat} {g:Zi} {w:Zb}:Goes P true (Ah ty Wg S) DC0 (AtW3 P ty Wg Anch S) m g w->CSit .w3 0 2 (m+1) X 1 g w
 |blk {X:Fuel P ty Wg} {g:Zi} {w:Zb}:(∀w₁,Ah ty Wg S w w₁->AtW3 P ty Wg Anch S g w₁)->CSit .blk 0 2 0 X 1 {g with status:=.blocked} w
 |w4 {X:Fuel P ty Wg} {m:Nat} {g:Zi} {w:Zb}:Goes P true (Ah ty Wg S) DC0 (AtW4 P ty Wg Anch S) m g w->CSit .w4 0 2 m X 1 g w
 |ke {X:Fuel P ty Wg} {m:Nat} {g:Zi} {w:Zb}:Goes P true (Ah ty Wg S) DC0 (AtKe P ty Wg Anch S) m g w->CSit .ke 0 2 m X 1 g w
 |acq {X:Fuel P ty Wg} {m:Nat} {g:Zi} {w:Zb}:Goes P true (Ah ty Wg S) DC0 (AtAcq P ty Wg Anch S) m g w->CSit .acq 0 2 m X 0 g w
 |ret {X:Fuel P ty Wg} {m:Nat} {g:Zi} {w:Zb}:Goes P true (Ah ty Wg S) DC0 (Anch S) m g w->CSit .ret 0 2 m X 0 g w
end
end
section
variable {P:Zo}{ty:Zs}{Wg Ch:Nat}{OP:Gk}{Pay:Nat->Gk}{Anch AO:Cd}{S L:Nat->Prop}{s e m d:Nat}{X:Fuel P ty Wg}{g:Zi}{w w₁:Zb}
def Cs:∀a b c,Ah ty Wg S a b->Ah ty Wg S b c->Ah ty Wg S a c:=fun _ _ _ h k=>h.trans k
def WSit.rely (h:WSit P ty Wg Ch OP S L s e m d X g w)(hr:Ah ty Wg S w w₁):WSit P ty Wg Ch OP S L s e m d X g w₁:=by
 cases h with
 |wk h k=>exact .wk h (k.trans hr)
 |r0 h=>exact .r0 (Yb Cs h hr)
 |k1 h=>exact .k1 (Yb Cs h hr)
 |d1 h=>exact .d1 (Yb Cs h hr)
 |d2 h=>exact .d2 (Yb Cs h hr)
 |d3 h=>exact .d3 (Yb Cs h hr)
 |d4 h=>exact .d4 (Yb Cs h hr)
 |quit h=>exact .quit h
def Be.running {St:Cd}{mn:Bool}{Lk:Nat->Prop}(h:Be P mn ty Wg Lk St S g w)(hs:∀S g w,St S g w->g.status=.running):g.status=.running:=by
 cases h with
 |stop h=>exact hs _ _ _ (h w (Ah.refl w))
 |step h=>exact h
def WSit.status (h:WSit P ty Wg Ch OP S L s e m d X g w):g.status=.running\/(g.status=.finished/\s=1):=by
 cases h with
 |wk h _=>exact .inl (h.running fun _ _ _ x=>x.1)
 |r0 h=>exact .inl (zt (fun _ _ x=>x.1) w (Ah.refl w) h)
 |k1 h=>exact .inl (zt (fun _ _ x=>x.1) w (Ah.refl w) h)
 |d1 h=>exact .inl (zt (fun _ _ x=>x.1) w (Ah.refl w) h)
 |d2 h=>exact .inl (zt (fun _ _ x=>x.1) w (Ah.refl w) h)
 |d3 h=>exact .inl (zt (fun _ _ x=>x.1) w (Ah.refl w) h)
 |d4 h=>exact .inl (zt (fun _ _ x=>x.1) w (Ah.refl w) h)
 |quit h=>exact h.status.imp id fun x=>⟨x,rfl⟩
def WSit.woken (h:WSit P ty Wg Ch OP S L s e m d X g w)(a a':Zi)(w':Zb):woken P a a' w' g=g:=by
 unfold Go.Conc.woken;split
 .exact again_running _ (h.status.imp id And.left)
 rfl
def CSit.rely {tag:CTag}{j:Nat}(h:CSit P ty Wg Ch Pay Anch AO S L tag s j m X d g w)(hr:Ah ty Wg S w w₁):CSit P ty Wg Ch Pay Anch AO S L tag s j m X d g w₁:=by
 cases h with
 |skd hn h k=>exact .skd hn h (k.trans hr)
 |sa1 hn h=>exact .sa1 hn (Yb Cs h hr)
 |ssr hn h=>exact .ssr hn (Yb Cs h hr)
 |ske hn h=>exact .ske hn (Yb Cs h hr)
 |sgo hn h=>exact .sgo hn (Yb Cs h hr)
 |kd h k=>exact .kd h (k.trans hr)
 |anch h=>exact .anch (Yb Cs h hr)
 |w1 h=>exact .w1 (Yb Cs h hr)
 |w2 h=>exact .w2 (Yb Cs h hr)
 |sw h=>exact .sw (Yb Cs h hr)
 |w3 h=>exact .w3 (Yb Cs h hr)
 |blk h=>exact .blk (fun w₂ Co=>h w₂ (hr.trans Co))
 |w4 h=>exact .w4 (Yb Cs h hr)
 |ke h=>exact .ke (Yb Cs h hr)
 |acq h=>exact .acq (Yb Cs h hr)
 |ret h=>exact .ret (Yb Cs h hr)
def CSit.status {tag:CTag}{j:Nat}(R9:∀S g w,AO S g w->g.status=.running)(hA:∀S g w,Anch S g w->g.status=.running)(h:CSit P ty Wg Ch Pay Anch AO S L tag s j m X d g w):(g.status=.running/\tag≠ .blk)\/(g.status=.blocked/\tag=.blk):=by
 have r:=Ah.refl (ty:=ty) (Wg:=Wg) (S:=S) w;cases h with
 |skd _ h _=>exact .inl ⟨h.running fun _ _ _ x=>x.1,by simp⟩
 |sa1 _ h=>exact .inl ⟨zt (fun _ _ x=>x.1) w r h,by simp⟩
 |ssr _ h=>exact .inl ⟨zt (fun _ _ x=>x.1) w r h,by simp⟩
 |ske _ h=>exact .inl ⟨zt (fun _ _ x=>x.1) w r h,by simp⟩
 |sgo _ h=>exact .inl ⟨zt (fun _ _ x=>x.1) w r h,by simp⟩
 |kd h _=>exact .inl ⟨h.running fun _ _ _ x=>x.1,by simp⟩
 |anch h=>exact .inl ⟨zt (R9 S) w r h,by simp⟩
 |w1 h=>exact .inl ⟨zt (fun _ _ x=>x.1) w r h,by simp⟩
 |w2 h=>exact .inl ⟨zt (fun _ _ x=>x.1) w r h,by simp⟩
 |sw h=>exact .inl ⟨zt (fun _ _ x=>x.1) w r h,by simp⟩
 |w3 h=>exact .inl ⟨zt (fun _ _ x=>x.1) w r h,by simp⟩
 |blk h=>exact .inr ⟨rfl,rfl⟩
 |w4 h=>exact .inl ⟨zt (fun _ _ x=>x.1) w r h,by simp⟩
 |ke h=>exact .inl ⟨zt (fun _ _ x=>x.1) w r h,by simp⟩
 |acq h=>exact .inl ⟨zt (fun _ _ x=>x.1) w r h,by simp⟩
 |ret h=>exact .inl ⟨zt (hA S) w r h,by simp⟩
variable {p b i j k s' e' m' dd' KP f' n:Nat}
def CSit.wokenBy {tag:CTag}(R9:∀S g w,AO S g w->g.status=.running)(hA:∀S g w,Anch S g w->g.status=.running)(h:CSit P ty Wg Ch Pay Anch AO S L tag s j m X d g w)(hr:Ah ty Wg S w w₁)(a a':Zi):
  ∃Cl m',CSit P ty Wg Ch Pay Anch AO S L Cl s j m' X d (woken P a a' w₁ g) w₁/\(Cl=tag\/(tag=.blk/\Cl=.w3))/\(ZcH P a=true->a'.status=.running->Cl≠ .blk):=by
 have h':=h.rely hr;unfold Go.Conc.woken;split
 .rcases h'.status R9 hA with⟨hs,BL⟩|⟨_,rfl⟩
  .exact⟨tag,m,by rw[again_running _ (.inl hs)];exact h',.inl rfl,fun _ _=>BL⟩
  cases h' with
  |blk hb=>
   rename_i g0;have h3:=hb w₁ (Ah.refl w₁);exact⟨.w3,0+1,by rw[Go.ConcR.again_blocked h3.1 h3.2.1];exact .w3 (ZT hb),.inr ⟨rfl,rfl⟩,fun _ _=>by simp⟩
 rename_i hc;exact⟨tag,m,h',.inl rfl,fun h1 h2=>absurd (by simp[h1,h2]) hc⟩
end
end Go.Pair
namespace Go.Pair
open Go Go.Conc Go.FA
open Go.ConcN (PermW RelBy WgLive CTag phi pend isOpen isW3 isFin OpenSt AllQuit Mode WD Vc Ssum Fsum cnt sumTo upd upd_same upd_ne get_map_set get_map_set_same Deaf_still)
open Go.ConcR (KK WgAt stA smA rd wr mk DC0 Bk g_of_ofEvents)
structure Ak (ty:Zs)(Wg Ch:Nat)(S L:Nat->Prop)(w w':Zb):Prop where
 size:w.heap.size<=w'.heap.size
 still:∀b,b<w.heap.size->¬S b\/L b->b≠Wg->b≠Ch->w'.heap[b]?=w.heap[b]?
 os:w'.os=w.os
 tape:w'.tape=w.tape
 output:w'.output=w.output
 live:WgLive ty Wg w->WgLive ty Wg w'
section
variable {ty:Zs}{Wg Ch:Nat}{S L:Nat->Prop}{w w':Zb}{es:Array Z9}
def Ak.gy (h:LN S L w w' es)(hW:¬S Wg)(Az:Wg<w.heap.size):Ak ty Wg Ch S L w w':=
 ⟨h.size,fun b hb hx _ _=>h.still b hb hx,h.os,h.tape,h.output,fun⟨st,sm,hl⟩=>⟨st,sm,(h.still Wg Az (.inl hW)).trans hl⟩⟩
end
def n9 (Ch:Nat)(j:Nat)(E:Nat->Nat)(vals:Nat->Zf)(w:Zb):Prop:=
 ∃(ord:List Nat) (tm:Bool),ord.Nodup/\(∀i,i∈ord↔(i<j/\E i=0))/\w.heap[Ch]?=some (.chan 2 (ord.map vals).toArray false ord.length 0 tm)
abbrev I_ (Wg T₀:Nat)(t:YZ)(g r:Nat):Prop:=RelBy (stA Wg) t g r/\T₀<=r/\∀k a,ZaR t k=some a->a.loc.isMemory=true->t.g? k=some g->k<=r\/(Mw Wg a.loc/\a.kind=.atomic)
section
variable(P:Zo)(ty:Zs)(Wg Ch:Nat)(Pay:Nat->Gk)(K T₀:Nat)(Shun:Loc->Prop)(w₀:Zb)(S₀ L₀:Nat->Prop)
structure Com (j:Nat)(gs:Array Zi)(w:Zb)(t:YZ)(D:Nat->WD)(E:Nat->Nat)(X:Nat->Fuel P ty Wg)(H:JJ)(q:Nat->Nat)(d0:Nat)(vals:Nat->Zf):Prop where
 size:gs.size=K+j
 pos:1<=K
 wk:∀i,i<j->∃g,gs[K+i]?=some g/\WSit P ty Wg Ch (Pay i) (H.S (i+1)) (H.L (i+1)) (D i).stage (E i) (D i).fuel (D i).deaf (X i) g w
 old:∀i g,0<i->i<K->gs[i]?=some g->ZcA P (q i) (Deaf t i) g
 ti:TI K Wg Shun H j w.heap.size t
 OQ:Apt Wg H j w.heap.size
 norel:∀k,T₀<=k->t.act? k≠some (.mark (.release (stA Wg)))
 told:T₀<=t.size
 deaf0:Deaf t 0=d0
 deafW:∀i,i<j->Deaf t (K+i)=(D i).deaf
 above:∀i,K+j<=i->Deaf t i=0
 rel:∀i,i<j->(D i).stage<=6->∃r,I_ Wg T₀ t (K+i) r
 IK:Wg<w.heap.size
 TR:Ch<w.heap.size
 cw:Ch≠Wg
 OT:∀p,p<=j->¬H.S p Ch
 ch:n9 Ch j E vals w
 pay:∀i,i<j->E i=0->Pay i (H.S (i+1)) (vals i) w
 dn:∀b,b<w₀.heap.size->b≠Wg->b≠Ch->(¬S₀ b\/L₀ b)->w.heap[b]?=w₀.heap[b]?
 grown:w₀.heap.size<=w.heap.size
 os:w.os=w₀.os
 tape:w.tape=w₀.tape
 output:w.output=w₀.output
 ER:∀p,p<=j->∀b,H.S p b->S₀ b\/w₀.heap.size<=b
 jD:∀p,p<=j->∀b,L₀ b->H.S p b->S₀ b->H.L p b
 l0:∀b,L₀ b->b<w₀.heap.size
 e01:∀i,i<j->(D i).stage<=6->E i=0
end
section
variable {P:Zo}{ty:Zs}{Wg Ch:Nat}{Pay:Nat->Gk}{K T₀:Nat}{Shun:Loc->Prop}{w₀:Zb}{S₀ L₀:Nat->Prop}
 {j:Nat} {gs:Array Zi} {w w':Zb} {t u:YZ} {D:Nat->WD} {E:Nat->Nat} {X:Nat->Fuel P ty Wg} {H:JJ} {q:Nat->Nat} {d0:Nat} {vals:Nat->Zf}
def Ls {T₀:Nat}{a:Addr}{t u:YZ}(h:∀k,T₀<=k->t.act? k≠some (.mark (.release a)))(hu:∀op∈u,op.act≠ .mark (.release a)):∀k,T₀<=k->(t++u).act? k≠some (.mark (.release a)):=by
 intro i hk hi;obtain⟨op,ho,hoa⟩:=zc.1 hi;rcases Yy ho with⟨_,rH⟩|⟨_,hou⟩
 .exact h i hk (by rw[act?_of rH,hoa])
 exact hu op hou hoa
def Nu {T₀:Nat}{t u:YZ}(h:T₀<=t.size):T₀<=(t++u).size:=by
 rw[Array.size_append];omega
def I' (ty:Zs)(Wg:Nat)(Pay:Nat->Gk):Prop:=∀i S v w w',Pay i S v w->Ah ty Wg S w w'->Pay i S v w'
variable {p b i k s' e' m' dd' d KP f' m n:Nat}
def Com.VT (h:Com P ty Wg Ch Pay K T₀ Shun w₀ S₀ L₀ j gs w t D E X H q d0 vals)(hp:p<=j)(T:Ak ty Wg Ch (H.S p) (H.L p) w w'){p':Nat}(lR:p'<=j)(BL:p'≠p):Ah ty Wg (H.S p') w w':=by
 refine⟨⟨fun b hb=>?_,T.size,T.os⟩,T.live⟩;refine T.still b (h.OQ.low p' lR b hb) ?_ (fun e=>h.OQ.wg p' lR (e▸hb)) (fun e=>h.OT p' lR (e▸hb));by_cases hx:H.S p b
 .exact .inr (h.OQ.two p p' hp lR (Za0 BL) b hx hb)
 exact .inl hx
def Com.VU (h:Com P ty Wg Ch Pay K T₀ Shun w₀ S₀ L₀ j gs w t D E X H q d0 vals)(_hp:p<=j)(D':w.heap.size<=w'.heap.size):Apt Wg (H.set p (Ib (H.S p) w w') (H.L p)) j w'.heap.size:=by
 refine⟨fun a c ha hc BL b hb G1=>?_,fun a ha hb=>?_,fun a ha b hb=>?_⟩
 .by_cases e:a=p
  .subst e
   rw[(A6 _ _ _).1]at hb;rw[(BB (Za0 BL) _ _).1]at G1;rw[(A6 _ _ _).2];rcases hb with x|⟨x,_⟩
   .exact h.OQ.two a c ha hc BL b x G1
   have:=h.OQ.low c hc b G1;omega
  rw[(BB e _ _).1]at hb;rw[(BB e _ _).2];by_cases e':c=p
  .subst e'
   rw[(A6 _ _ _).1]at G1;rcases G1 with x|⟨x,_⟩
   .exact h.OQ.two a c ha hc BL b hb x
   have:=h.OQ.low a ha b hb;omega
  rw[(BB e' _ _).1]at G1;exact h.OQ.two a c ha hc BL b hb G1
 .by_cases e:a=p
  .subst e
   rw[(A6 _ _ _).1]at hb;rcases hb with x|⟨x,_⟩
   .exact h.OQ.wg a ha x
   have:=h.IK;omega
  rw[(BB e _ _).1]at hb;exact h.OQ.wg a ha hb
 by_cases e:a=p
 .subst e
  rw[(A6 _ _ _).1]at hb;rcases hb with x|⟨_,x⟩
  .exact Zl (h.OQ.low a ha b x) D'
  exact x
 rw[(BB e _ _).1]at hb;exact Zl (h.OQ.low a ha b hb) D'
def Com.n_ (h:Com P ty Wg Ch Pay K T₀ Shun w₀ S₀ L₀ j gs w t D E X H q d0 vals)(hp:p<=j)(D':w.heap.size<=w'.heap.size)(hg:∀op∈u,op.g=ix K p)(hl:∀op∈u,op.act.low w'.heap.size)
 (ho:∀op∈u,∀x,op.act.touch?=some x->(Mw Wg x.loc/\x.kind≠ .plain/\(x.kind=.said->p=0))\/(∃b,blk x.loc=some b/\Ib (H.S p) w w' b/\(x.write=true->¬H.L p b))\/x.loc.isMemory=false):
  TI K Wg Shun (H.set p (Ib (H.S p) w w') (H.L p)) j w'.heap.size (t++u):=by
 refine TI.app (h.ti.grow D' (fun b hb=>hb.imp id And.left) (fun b x _=>x)) (h.VU hp D') hp hg hl fun op hop x hx=>?_;rcases ho op hop x hx with y|⟨b,h1,h2,h3⟩|y
 .exact .inl y
 .exact .inr (.inl ⟨b,h1,by rw[(A6 _ _ _).1];exact h2,by rw[(A6 _ _ _).2];exact h3⟩)
 exact .inr (.inr y)
def Com.at (h:Com P ty Wg Ch Pay K T₀ Shun w₀ S₀ L₀ j gs w t D E X H q d0 vals)(hP:I' ty Wg Pay)(d:Nat):Com P ty Wg Ch Pay K T₀ Shun w₀ S₀ L₀ j gs (w.at d) t D E X H q d0 vals:=
 ⟨h.size,h.pos,fun i hi=>let⟨g,hg,hs⟩:=h.wk i hi;⟨g,hg,hs.rely (Ah.at w d)⟩,h.old,h.ti,h.OQ,h.norel,h.told,h.deaf0,h.deafW,h.above,h.rel,h.IK,h.TR,h.cw,h.OT,h.ch,
  fun i hi he=>hP i _ _ _ _ (h.pay i hi he) (Ah.at w d),h.dn,h.grown,h.os,h.tape,h.output,h.ER,h.jD,h.l0,h.e01⟩
def Com.R_ (h:Com P ty Wg Ch Pay K T₀ Shun w₀ S₀ L₀ j gs w t D E X H q d0 vals)(hp:p<=j)(_hsz:w.heap.size<=w'.heap.size):
  (∀a,a<=j->¬(H.set p (Ib (H.S p) w w') (H.L p)).S a Ch)/\(∀a,a<=j->∀b,(H.set p (Ib (H.S p) w w') (H.L p)).S a b->S₀ b\/w₀.heap.size<=b)/\
  (∀a,a<=j->∀b,L₀ b->(H.set p (Ib (H.S p) w w') (H.L p)).S a b->S₀ b->(H.set p (Ib (H.S p) w w') (H.L p)).L a b):=by
 refine⟨fun a ha hb=>?_,fun a ha b hb=>?_,fun a ha b hl hb h0=>?_⟩
 .by_cases e:a=p
  .subst e
   rw[(A6 _ _ _).1]at hb;rcases hb with x|⟨x,_⟩
   .exact h.OT a ha x
   have:=h.TR;omega
  rw[(BB e _ _).1]at hb;exact h.OT a ha hb
 .by_cases e:a=p
  .subst e
   rw[(A6 _ _ _).1]at hb;rcases hb with x|⟨x,_⟩
   .exact h.ER a ha b x
   exact .inr (Zr h.grown x)
  rw[(BB e _ _).1]at hb;exact h.ER a ha b hb
 by_cases e:a=p
 .subst e
  rw[(A6 _ _ _).1]at hb;rw[(A6 _ _ _).2];rcases hb with x|⟨x,y⟩
  .exact h.jD a ha b hl x h0
  have:=h.l0 b hl;have:=h.grown;omega
 rw[(BB e _ _).1]at hb;rw[(BB e _ _).2];exact h.jD a ha b hl hb h0
structure KR (Wg K:Nat)(H:JJ)(p:Nat)(w w':Zb)(u:YZ):Prop where
 g:∀op∈u,op.g=ix K p
 low:∀op∈u,op.act.low w'.heap.size
 ok:∀op∈u,∀x,op.act.touch?=some x->(Mw Wg x.loc/\x.kind≠ .plain/\(x.kind=.said->p=0))\/(∃b,blk x.loc=some b/\Ib (H.S p) w w' b/\(x.write=true->¬H.L p b))\/x.loc.isMemory=false
 norel:∀op∈u,op.act≠ .mark (.release (stA Wg))
variable {a:Touch}
def Nv (h:ZaR (t++u) k=some a){g:Nat}(hu:∀op∈u,op.g≠g)(hg:(t++u).g? k=some g):ZaR t k=some a/\t.g? k=some g:=by
 obtain⟨x,hx,VS⟩:=ZbE h;rcases Yy hx with⟨hi,n6⟩|⟨_,hxu⟩
 .exact⟨by rw[Zcv n6];exact VS,by simpa[Zal,YS hi]using hg⟩
 have:x.g=g:=by simpa[Zal,hx]using hg
 exact absurd this (hu x hxu)
variable {gs':Array Zi}
variable {g g' a':Zi}
def Com.stepW (h:Com P ty Wg Ch Pay K T₀ Shun w₀ S₀ L₀ j gs w t D E X H q d0 vals)(hP:I' ty Wg Pay)(hi:i<j){x':Fuel P ty Wg}{vals':Nat->Zf}(T:Ak ty Wg Ch (H.S (i+1)) (H.L (i+1)) w w')(U:KR Wg K H (i+1) w w' u)
 (DX:WSit P ty Wg Ch (Pay i) (Ib (H.S (i+1)) w w') (H.L (i+1)) s' e' m' dd' x' g' w')
 (aeN:Deaf (t++u) (K+i)=dd')
 (hrel:s'<=6->∃r,I_ Wg T₀ (t++u) (K+i) r)
 (hz:gs'.size=gs.size) (n8:gs'[K+i]?=some g') (hgo:∀k,0<k->k≠K+i->gs'[k]?=gs[k]?)
 (lS:n9 Ch j (upd E i e') vals' w') (hv:∀a,a≠i->vals' a=vals a) (jE:e'=0->Pay i (Ib (H.S (i+1)) w w') (vals' i) w') (he:s'<=6->e'=0):
  Com P ty Wg Ch Pay K T₀ Shun w₀ S₀ L₀ j gs' w' (t++u) (upd D i ⟨s',m',dd'⟩) (upd E i e') (upd X i x') (H.set (i+1) (Ib (H.S (i+1)) w w') (H.L (i+1))) q d0 vals':=by
 have hp:i+1<=j:=hi;have Fy:=h.pos;have D':=h.size;have hr:∀i',i'<j->i'≠i->Ah ty Wg (H.S (i'+1)) w w':=fun i' DN e=>h.VT hp T DN (by omega);have ug:∀op∈u,op.g=K+i:=U.g;have hf:=h.R_ (w':=w') hp T.size;refine⟨hz.trans h.size,h.pos,fun i' DN=>?_,fun k x hk hK hx=>?_,h.n_ hp T.size U.g U.low U.ok,h.VU hp T.size,Ls h.norel U.norel,Nu h.told,by rw[Y0 t (by omega) _ ug,h.deaf0],fun i' DN=>?_,fun k hk=>by rw[Y0 t (by omega) _ ug];exact h.above k hk,
  fun i' DN B_=>?_,Zl h.IK T.size,Zl h.TR T.size,h.cw,hf.1,lS,fun i' DN lT=>?_,fun b hb h1 h2 h3=>?_,Zr h.grown T.size,T.os.trans h.os,T.tape.trans h.tape,T.output.trans h.output,hf.2.1,hf.2.2,h.l0,fun i' DN B_=>?_⟩
 .by_cases e:i'=i
  .subst e
   refine⟨g',n8,?_⟩;rw[(A6 _ _ _).1,(A6 _ _ _).2,upd_same,upd_same,upd_same];exact DX
  obtain⟨x,hx,hsx⟩:=h.wk i' DN;refine⟨x,by rw[hgo _ (by omega) (by omega)];exact hx,?_⟩;rw[(BB (by omega) _ _).1,(BB (by omega) _ _).2,upd_ne _ _ e,upd_ne _ _ e,upd_ne _ _ e];exact hsx.rely (hr i' DN e)
 .rw[hgo k hk (by omega)]at hx
  have hq:=h.old k x hk hK hx;rw[Y0 t (by omega) _ ug];exact hq
 .by_cases e:i'=i
  .subst e;rw[upd_same];exact aeN
  rw[Y0 t (by omega) _ ug,h.deafW i' DN,upd_ne _ _ e]
 .by_cases e:i'=i
  .subst e;rw[upd_same]at B_;exact hrel B_
  rw[upd_ne _ _ e]at B_;obtain⟨r,hr,htr,hk⟩:=h.rel i' DN B_;refine⟨r,hr.appOther ug (by omega),htr,fun k a ha hm wm=>?_⟩;obtain⟨h1,h2⟩:=Nv ha (fun op hop=>by rw[ug op hop];omega) wm;exact hk k a h1 hm h2
 .by_cases e:i'=i
  .subst e
   rw[upd_same]at lT;rw[(A6 _ _ _).1];exact jE lT
  rw[upd_ne _ _ e]at lT;rw[(BB (by omega) _ _).1,hv i' e];exact hP _ _ _ _ _ (h.pay i' DN lT) (hr i' DN e)
 .rw[T.still b (Zl hb h.grown) ?_ h1 h2]
  .exact h.dn b hb h1 h2 h3
  by_cases hx:H.S (i+1) b
  .rcases h.ER _ hp b hx with y|y
   .rcases h3 with z|z
    .exact absurd y z
    exact .inr (h.jD _ hp b z hx y)
   omega
  exact .inl hx
 by_cases e:i'=i
 .subst e;rw[upd_same]at B_⊢;exact he B_
 rw[upd_ne _ _ e]at B_⊢;exact h.e01 i' DN B_
def n9.CN (h:n9 Ch j E vals w)(T:w'.heap[Ch]?=w.heap[Ch]?):n9 Ch j E vals w':=by
 obtain⟨ord,tm,h1,h2,h3⟩:=h;exact⟨ord,tm,h1,h2,T.trans h3⟩
def Com.step0 (h:Com P ty Wg Ch Pay K T₀ Shun w₀ S₀ L₀ j gs w t D E X H q d0 vals)(hP:I' ty Wg Pay)(hz:gs'.size=gs.size)(hgo:∀k,0<k->gs'[k]?=gs[k]?)(T:Ak ty Wg Ch (H.S 0) (H.L 0) w w')(U:KR Wg K H 0 w w' u)(lS:w'.heap[Ch]?=w.heap[Ch]?):
  Com P ty Wg Ch Pay K T₀ Shun w₀ S₀ L₀ j gs' w' (t++u) D E X (H.set 0 (Ib (H.S 0) w w') (H.L 0)) q (Deaf (t++u) 0) vals:=by
 have hp:0<=j:=Zp _;have Fy:=h.pos;have hr:∀i',i'<j->Ah ty Wg (H.S (i'+1)) w w':=fun i' DN=>h.VT hp T DN (by omega);have ug:∀op∈u,op.g=0:=U.g;have hf:=h.R_ (w':=w') hp T.size;refine⟨hz.trans h.size,h.pos,fun i' DN=>?_,fun k x hk hK hx=>?_,h.n_ hp T.size U.g U.low U.ok,h.VU hp T.size,Ls h.norel U.norel,Nu h.told,rfl,fun i' DN=>by rw[Y0 t (by omega) _ ug];exact h.deafW i' DN,fun k hk=>by rw[Y0 t (by omega) _ ug];exact h.above k hk,
  fun i' DN B_=>?_,Zl h.IK T.size,Zl h.TR T.size,h.cw,hf.1,h.ch.CN lS,fun i' DN lT=>?_,fun b hb h1 h2 h3=>?_,Zr h.grown T.size,T.os.trans h.os,T.tape.trans h.tape,T.output.trans h.output,hf.2.1,hf.2.2,h.l0,h.e01⟩
 .obtain⟨x,hx,hsx⟩:=h.wk i' DN
  refine⟨x,by rw[hgo _ (by omega)];exact hx,?_⟩;rw[(BB (by omega) _ _).1,(BB (by omega) _ _).2];exact hsx.rely (hr i' DN)
 .rw[hgo k hk]at hx
  have hq:=h.old k x hk hK hx;rw[Y0 t (by omega) _ ug];exact hq
 .obtain⟨r,hr,htr,hk⟩:=h.rel i' DN B_
  refine⟨r,hr.appOther ug (by omega),htr,fun k a ha hm wm=>?_⟩;obtain⟨h1,h2⟩:=Nv ha (fun op hop=>by rw[ug op hop];omega) wm;exact hk k a h1 hm h2
 .rw[(BB (by omega) _ _).1]
  exact hP _ _ _ _ _ (h.pay i' DN lT) (hr i' DN)
 rw[T.still b (Zl hb h.grown) ?_ h1 h2]
 .exact h.dn b hb h1 h2 h3
 by_cases hx:H.S 0 b
 .rcases h.ER _ hp b hx with y|y
  .rcases h3 with z|z
   .exact absurd y z
   exact .inr (h.jD _ hp b z hx y)
  omega
 exact .inl hx
variable {es:Array Z9}
def Com.aeP (h:Com P ty Wg Ch Pay K T₀ Shun w₀ S₀ L₀ j gs w t D E X H q d0 vals){n':Nat}(hk:0<k)(hK:k<K)(hz:gs'.size=gs.size)(n8:gs'[k]?=some g')(hgo:∀k',0<k'->k'≠k->gs'[k']?=gs[k']?){fn:ZaQ}{pos:String}(hm:∀e∈es,e.mute=true)(hq:ZcA P n' (zV (Deaf t k) es) g'):
  Com P ty Wg Ch Pay K T₀ Shun w₀ S₀ L₀ j gs' w (t++ZK k fn pos es) D E X H (upd q k n') d0 vals:=by
 have ug:∀op∈ZK k fn pos es,op.g=k:=fun op hop=>by obtain⟨e,_,rfl⟩:=ZQ hop;rfl
 have Fy:=h.pos;have D':=h.size;refine⟨hz.trans h.size,h.pos,fun i' DN=>?_,fun k' x Kh hK' hx=>?_,h.ti.mute (g:=k) ug (fun op hop=>by obtain⟨e,he,rfl⟩:=ZQ hop;exact low_mute (hm e he) _) (fun op hop=>by obtain⟨e,he,rfl⟩:=ZQ hop;exact touch_mute (hm e he)),h.OQ,
  Ls h.norel (fun op hop hx=>?_),Nu h.told,by rw[Y0 t (by omega) _ ug];exact h.deaf0,fun i' DN=>by rw[Y0 t (by omega) _ ug];exact h.deafW i' DN,fun k' Kh=>by rw[Y0 t (by omega) _ ug];exact h.above k' Kh,
  fun i' DN B_=>?_,h.IK,h.TR,h.cw,h.OT,h.ch,h.pay,h.dn,h.grown,h.os,h.tape,h.output,h.ER,h.jD,h.l0,h.e01⟩
 .obtain⟨x,hx,hsx⟩:=h.wk i' DN
  exact⟨x,by rw[hgo _ (by omega) (by omega)];exact hx,hsx⟩
 .by_cases e:k'=k
  .subst e
   rw[n8]at hx;cases hx;rw[upd_same,Deaf_own];exact hq
  rw[hgo k' Kh e]at hx;have hq:=h.old k' x Kh hK' hx;rw[Y0 t (by omega) _ ug,upd_ne _ _ e];exact hq
 .obtain⟨e,he,rfl⟩:=ZQ hop
  have h1:=hm e he;obtain⟨loc,wr,sy⟩:=e;cases loc<;>simp_all[Event.mute,ZR]
 obtain⟨r,hr,htr,sZ⟩:=h.rel i' DN B_;refine⟨r,hr.appOther ug (by omega),htr,fun k a ha hm wm=>?_⟩;obtain⟨h1,h2⟩:=Nv ha (fun op hop=>by rw[ug op hop];omega) wm;exact sZ k a h1 hm h2
def Com.Gl (h:Com P ty Wg Ch Pay K T₀ Shun w₀ S₀ L₀ j gs w t D E X H q d0 vals)(g g':Zi)(w':Zb)(p:Nat)(hk:0<k)(BL:k≠p):((gs.map (woken P g g' w')).setIfInBounds p g')[k]?=gs[k]? :=by
 rw[get_map_set _ _ _ _ (Za0 BL)];cases hx:gs[k]? with
 |none=>rfl
 |some x=>
  have Az:=(Za.1 hx).1;have D':=h.size;rw[Zdh]
  congr 1
  rcases Zar k K with hK|hK
  .exact woken_quitsD (h.old k x hk hK hx)
  obtain⟨y,hy,hsy⟩:=h.wk (k - K) (by omega);rw[show K+(k - K)=k by omega,hx]at hy;cases hy;exact hsy.woken _ _ _
variable {x y:MemOp}
def Com.spawn (h:Com P ty Wg Ch Pay K T₀ Shun w₀ S₀ L₀ j gs w t D E X H q 0 vals){child:Zi}(hx:x.g=0/\x.act=.go (K+j))(hy:y.g=K+j/\y.act=.start)
 (hc:Be P false ty Wg (H.S 0) (AtSend P ty Wg Ch (Pay j)) (H.S 0) child w):
  Com P ty Wg Ch Pay K T₀ Shun w₀ S₀ L₀ (j+1) ((gs.setIfInBounds 0 a').push child) w (t++ #[x,y]) (upd D j ⟨7,0,0⟩) (upd E j 1) (upd X j hc.fuel) ((H.set (j+1) (H.S 0) (H.S 0)).set 0 (H.S 0) (H.S 0)) q 0 vals:=by
 have hm:∀op∈#[x,y],op=x\/op=y:=by intro op hop;simpa using hop
 have B_:∀op∈#[x,y],op.act≠ .mark .disable/\op.act≠ .mark .enable:=by
  intro op hop;rcases hm op hop with rfl|rfl
  .rw[hx.2];exact⟨by simp,by simp⟩
  rw[hy.2];exact⟨by simp,by simp⟩
 have D':=h.size;have Fy:=h.pos;have hS:∀p,p<=j+1->(p=0\/p=j+1)/\((H.set (j+1) (H.S 0) (H.S 0)).set 0 (H.S 0) (H.S 0)).S p=H.S 0/\((H.set (j+1) (H.S 0) (H.S 0)).set 0 (H.S 0) (H.S 0)).L p=H.S 0\/
   p≠0/\p<=j/\((H.set (j+1) (H.S 0) (H.S 0)).set 0 (H.S 0) (H.S 0)).S p=H.S p/\((H.set (j+1) (H.S 0) (H.S 0)).set 0 (H.S 0) (H.S 0)).L p=H.L p:=by
  intro p hp;by_cases e0:p=0
  .subst e0
   exact .inl ⟨.inl rfl,(A6 _ _ _).1,(A6 _ _ _).2⟩
  by_cases e1:p=j+1
  .subst e1
   exact .inl ⟨.inr rfl,by rw[(BB e0 _ _).1,(A6 _ _ _).1],by rw[(BB e0 _ _).2,(A6 _ _ _).2]⟩
  exact .inr ⟨e0,by omega,by rw[(BB e0 _ _).1,(BB e1 _ _).1],by rw[(BB e0 _ _).2,(BB e1 _ _).2]⟩
 have old:∀ {k:Nat},0<k->k<K+j->((gs.setIfInBounds 0 a').push child)[k]?=gs[k]? :=by
  intro k hk Az;rw[Zd3 (by simp[D'];omega), <-Zx,Zk (by omega)]
 refine⟨by simp[D'];omega,Fy,fun i hi=>?_,fun k g hk hK hg=>?_,h.ti.fork hx hy h.deaf0 (h.above _ (Zj _)),⟨fun p p' hp lR BL b hb G1=>?_,fun p hp hb=>?_,fun p hp b hb=>?_⟩,Ls h.norel fun op hop=>?_,Nu h.told,by rw[Deaf_still t 0 _ B_,h.deaf0],fun i hi=>?_,
  fun k hk=>by rw[Deaf_still t _ _ B_];exact h.above k (by omega),fun i hi hs=>?_,h.IK,h.TR,h.cw,fun p hp hb=>?_,?_,fun i hi he=>?_,h.dn,h.grown,h.os,h.tape,h.output,fun p hp b hb=>?_,fun p hp b hl hb h0=>?_,h.l0,fun i hi hs=>?_⟩
 .rcases Zar i j with Az|hge
  .obtain⟨g,hg,hsg⟩:=h.wk i Az
   refine⟨g,by rw[old (by omega) (by omega)];exact hg,?_⟩;rw[upd_ne _ _ (by omega),upd_ne _ _ (by omega),upd_ne _ _ (by omega)];rcases hS (i+1) (by omega) with⟨h1|h1,_⟩|⟨_,_,h1,h2⟩
   .omega
   .omega
   rw[h1,h2];exact hsg
  obtain rfl:i=j:=by omega
  refine⟨child,?_,?_⟩
  .rw[show K+i=(gs.setIfInBounds 0 a').size by simp[D'],Zav]
  rw[upd_same,upd_same,upd_same];rcases hS (i+1) (by omega) with⟨_,h1,h2⟩|⟨_,h1,_⟩
  .rw[h1,h2];exact .wk hc (Ah.refl w)
  omega
 .rw[old hk (by omega)]at hg
  have:=h.old k g hk hK hg;rw[Deaf_still t _ _ B_];exact this
 .rcases hS p hp with⟨_,h1,h2⟩|⟨h0,hj,h1,h2⟩
  .rw[h2];rw[h1]at hb;exact hb
  rw[h2];rw[h1]at hb;rcases hS p' lR with⟨_,k1,_⟩|⟨_,hj',k1,_⟩
  .rw[k1]at G1
   exact h.OQ.two p 0 hj (Zp _) h0 b hb G1
  rw[k1]at G1;exact h.OQ.two p p' hj hj' BL b hb G1
 .rcases hS p hp with⟨_,h1,_⟩|⟨h0,hj,h1,_⟩
  .rw[h1]at hb;exact h.OQ.wg 0 (Zp _) hb
  rw[h1]at hb;exact h.OQ.wg p hj hb
 .rcases hS p hp with⟨_,h1,_⟩|⟨h0,hj,h1,_⟩
  .rw[h1]at hb;exact h.OQ.low 0 (Zp _) b hb
  rw[h1]at hb;exact h.OQ.low p hj b hb
 .rcases hm op hop with rfl|rfl
  .rw[hx.2];simp
  rw[hy.2];simp
 .rw[Deaf_still t _ _ B_]
  rcases Zar i j with Az|hge
  .rw[h.deafW i Az,upd_ne _ _ (by omega)]
  obtain rfl:i=j:=by omega
  rw[upd_same];exact h.above _ (Zj _)
 .rcases Zar i j with Az|hge
  .rw[upd_ne _ _ (by omega)]at hs
   obtain⟨r,hr,htr,hk⟩:=h.rel i Az hs;have hng:∀op∈#[x,y],op.g≠K+i:=by
    intro op hop;rcases hm op hop with rfl|rfl
    .rw[hx.1];omega
    rw[hy.1];omega
   refine⟨r,hr.appNot hng,htr,fun k a ha hmm wm=>?_⟩;obtain⟨h1,h2⟩:=Nv ha hng wm;exact hk k a h1 hmm h2
  obtain rfl:i=j:=by omega
  rw[upd_same]at hs;simp at hs
 .rcases hS p hp with⟨_,h1,_⟩|⟨h0,hj,h1,_⟩
  .rw[h1]at hb;exact h.OT 0 (Zp _) hb
  rw[h1]at hb;exact h.OT p hj hb
 .obtain⟨ord,tm,h1,h2,h3⟩:=h.ch
  refine⟨ord,tm,h1,fun i=>(h2 i).trans ⟨fun⟨k1,k2⟩=>⟨by omega,by rw[upd_ne _ _ (by omega)];exact k2⟩,fun⟨k1,k2⟩=>?_⟩,h3⟩;by_cases e:i=j
  .subst e;rw[upd_same]at k2;cases k2
  rw[upd_ne _ _ e]at k2;exact⟨by omega,k2⟩
 .by_cases e:i=j
  .subst e;rw[upd_same]at he;cases he
  rw[upd_ne _ _ e]at he;rcases hS (i+1) (by omega) with⟨h1|h1,_⟩|⟨_,_,h1,_⟩
  .omega
  .omega
  rw[h1];exact h.pay i (by omega) he
 .rcases hS p hp with⟨_,h1,_⟩|⟨h0,hj,h1,_⟩
  .rw[h1]at hb;exact h.ER 0 (Zp _) b hb
  rw[h1]at hb;exact h.ER p hj b hb
 .rcases hS p hp with⟨_,h1,h2⟩|⟨_,hj,h1,h2⟩
  .rw[h2];rw[h1]at hb;exact hb
  rw[h2];rw[h1]at hb;exact h.jD p hj b hl hb h0
 by_cases e:i=j
 .subst e;rw[upd_same]at hs;simp at hs
 rw[upd_ne _ _ e]at hs⊢;exact h.e01 i (by omega) hs
end
end Go.Pair
namespace Go.Pair
open Go Go.Conc Go.FA
open Go.ConcN (PermW RelBy WgLive CTag phi pend isOpen isW3 isFin OpenSt AllQuit WD Vc Ssum Fsum cnt sumTo sumTo_upd sumTo_congr upd upd_same upd_ne get_map_set get_map_set_same phi_mono phi_retag)
open Go.ConcR (KK WgAt stA smA rd wr mk DC0 Bk g_of_ofEvents)
section
variable {K Wg T₀:Nat}{t u:YZ}{g r:Nat}
def I_.other (h:I_ Wg T₀ t g r)(hu:∀op∈u,op.g≠g):I_ Wg T₀ (t++u) g r:=
 ⟨h.1.appNot hu,h.2.1,fun k a ha hm hg=>by obtain⟨h1,h2⟩:=Nv ha hu hg;exact h.2.2 k a h1 hm h2⟩
variable {p b i j k s' e' m' dd' d KP f' m n:Nat}
variable {es:Array Z9}
def I_.book (h:I_ Wg T₀ t g r)(jF:Deaf t g=d)(fn:ZaQ)(pos:String)(TF:∀e∈es,Bk Wg e)
 (hd:∀j e,es[j]?=some e->(ZR e).touch?=none\/0<zV d (es.extract 0 j)):I_ Wg T₀ (t++ZK g fn pos es) g r:=by
 refine⟨h.1.book jF fn pos TF hd,h.2.1,fun k a ha hm hg=>?_⟩;obtain⟨x,hx,VS⟩:=ZbE ha;rcases Yy hx with⟨hi,n6⟩|⟨_,hxu⟩
 .exact h.2.2 k a (by rw[Zcv n6];exact VS) hm (by simpa[Zal,YS hi]using hg)
 obtain⟨e,he,rfl⟩:=ZQ hxu;refine .inr ?_;rcases TF e he with h1|h1|⟨ad,w,rfl,hb⟩
 .simp only[zI h1]at VS;cases VS
 .simp only[zI h1]at VS;cases VS
 simp only[Zc4,Yg,ZJ]at VS;subst VS;exact⟨⟨ad,rfl,hb⟩,by simp⟩
def AcqAll (K Wg T₀ j:Nat)(t:YZ):Prop:=
 ∃q,t.act? q=some (.mark (.acquire (stA Wg)))/\t.g? q=some 0/\t.heard q/\∀i,i<j->∃r,I_ Wg T₀ t (K+i) r/\r<q
def AcqAll.app (h:AcqAll K Wg T₀ j t)(hu:∀i r,i<j->I_ Wg T₀ t (K+i) r->I_ Wg T₀ (t++u) (K+i) r):AcqAll K Wg T₀ j (t++u):=by
 obtain⟨q,h1,h2,h3,h4⟩:=h;have hq:=lt_of_act? h1;exact⟨q,by rw[act?_old hq];exact h1,by rw[g?_old hq];exact h2,(heard_old hq).2 h3,fun i hi=>let⟨r,hr,hrq⟩:=h4 i hi;⟨r,hu i r hi hr,hrq⟩⟩
end
abbrev Mu (P:Zo)(ty:Zs)(Wg:Nat):=Nat×(Fuel P ty Wg×(Fuel P ty Wg×(Nat×(Fuel P ty Wg×Nat))))
def Ja {P:Zo}{ty:Zs}{Wg:Nat}(a b:Mu P ty Wg):Prop:=
 ZcP (fun x y:Nat=>x<y) (ZcP Fuel.lt (ZcP Fuel.lt (ZcP (fun x y:Nat=>x<y) (ZcP Fuel.lt (fun x y:Nat=>x<y))))) a b
def al9 (P:Zo)(ty:Zs)(Wg:Nat):WellFounded (@Ja P ty Wg):=
 (ZcO ZdJ (ZcO ⟨Fuel.lt,Fuel.wf P ty Wg⟩ (ZcO ⟨Fuel.lt,Fuel.wf P ty Wg⟩ (ZcO ZdJ (ZcO ⟨Fuel.lt,Fuel.wf P ty Wg⟩ ZdJ))))).wf
section
variable {P:Zo}{ty:Zs}{Wg:Nat}{N N':Nat}{A A' B B' C C':Fuel P ty Wg}{n n' m m':Nat}
def mu1 (h:N'<N):Ja (N',A',B',n',C',m') (N,A,B,n,C,m):=ZaY _ _ h
def mu2 (h:Fuel.lt A' A):Ja (N,A',B',n',C',m') (N,A,B,n,C,m):=zB _ (ZaY _ _ h)
def mu3 (h:Fuel.lt B' B):Ja (N,A,B',n',C',m') (N,A,B,n,C,m):=zB _ (zB _ (ZaY _ _ h))
def mu4 (h:n'<n):Ja (N,A,B,n',C',m') (N,A,B,n,C,m):=zB _ (zB _ (zB _ (ZaY _ _ h)))
def mu5 (h:Fuel.lt C' C):Ja (N,A,B,n,C',m') (N,A,B,n,C,m):=zB _ (zB _ (zB _ (zB _ (ZaY _ _ h))))
def mu6 (h:m'<m):Ja (N,A,B,n,C,m') (N,A,B,n,C,m):=zB _ (zB _ (zB _ (zB _ (zB _ h))))
end
section
variable(P:Zo)(ty:Zs)(Wg Ch:Nat)(Pay:Nat->Gk)(K T₀:Nat)(Shun:Loc->Prop)(w₀:Zb)(S₀ L₀:Nat->Prop)(Anch AO:Cd)
def Ki (K j:Nat)(D:Nat->WD)(E:Nat->Nat)(X:Nat->Fuel P ty Wg)(q:Nat->Nat)(tag:CTag)(sub:Nat)(X0:Fuel P ty Wg)(f0:Nat):Mu P ty Wg:=
 (phi 2 (Vc j D) tag+sub+Ssum j D+sumTo j E,X 0,X 1,sumTo K q+Fsum j D,X0,f0)
def Inv (μ:Mu P ty Wg)(m:Machine)(t:YZ):Prop:=
 ∃(gs:Array Zi) (w:Zb) (sl:Option (Nat×Nat)) (j:Nat) (D:Nat->WD) (E:Nat->Nat) (X:Nat->Fuel P ty Wg) (H:JJ) (q:Nat->Nat) (d0:Nat) (vals:Nat->Zf) (tag:CTag) (sub f0:Nat) (X0:Fuel P ty Wg) (a:Zi) (st sm:Int),
  m=Yj gs w sl/\gs[0]?=some a/\CSit P ty Wg Ch Pay Anch AO (H.S 0) (H.L 0) tag sub j f0 X0 d0 a w/\Com P ty Wg Ch Pay K T₀ Shun w₀ S₀ L₀ j gs w t D E X H q d0 vals/\WgAt ty Wg w st sm/\Ye j D tag st sm/\
  (tag=.ret->AcqAll K Wg T₀ j t)/\μ=Ki P ty Wg K j D E X q tag sub X0 f0
end
section
variable {P:Zo}{ty:Zs}{Wg Ch:Nat}{Pay:Nat->Gk}{K T₀:Nat}{Shun:Loc->Prop}{w₀:Zb}{S₀ L₀:Nat->Prop}{Anch AO:Cd}
 {j:Nat} {gs gs':Array Zi} {w w':Zb} {t u:YZ} {D:Nat->WD} {E:Nat->Nat} {X:Nat->Fuel P ty Wg} {H:JJ} {q:Nat->Nat} {d0:Nat} {vals vals':Nat->Zf} {tag:CTag} {sub f0:Nat} {X0:Fuel P ty Wg} {a:Zi} {sl:Option (Nat×Nat)}
variable {S L S' L':Nat->Prop}
def CSit.bound (h:CSit P ty Wg Ch Pay Anch AO S L tag sub j f0 X0 d0 a w):j+pend tag<=2/\j<=2:=by
 cases h<;>simp only[pend]<;>(try simp)<;>omega
variable {p b i k s' e' m' dd' d KP f' m n:Nat}
variable {g g' a':Zi}
variable {QA UG:Int}
def workerStep (R9:∀S g w,AO S g w->g.status=.running)(hA:∀S g w,Anch S g w->g.status=.running)
 (hcs:CSit P ty Wg Ch Pay Anch AO (H.S 0) (H.L 0) tag sub j f0 X0 d0 a w)
 (hi:i<j) {x':Fuel P ty Wg} (wu:Ah ty Wg (H.S 0) w w') (h0:gs'[0]?=some (woken P g g' w' a)\/gs'[0]?=some a/\(tag=.blk->¬(ZcH P g=true/\g'.status=.running)))
 (B5:Com P ty Wg Ch Pay K T₀ Shun w₀ S₀ L₀ j gs' w' (t++u) (upd D i ⟨s',m',dd'⟩) (upd E i e') (upd X i x') (H.set (i+1) S' L') q d0 vals') (Dk:WgAt ty Wg w' QA UG)
 (AM:∀Cl,(Cl=tag\/(tag=.blk/\Cl=.w3))->(ZcH P g=true->g'.status=.running->Cl≠ .blk)->Ye j (upd D i ⟨s',m',dd'⟩) Cl QA UG)
 (Jb:tag=.ret->AcqAll K Wg T₀ j (t++u))
 (Az:(s'+e'<(D i).stage+E i/\s'<=(D i).stage/\cnt ⟨s',m',dd'⟩<=cnt (D i))\/(s'=(D i).stage/\e'=E i/\m'=(D i).fuel/\Fuel.lt x' (X i))\/(s'=(D i).stage/\e'=E i/\x'=X i/\m'+1=(D i).fuel)):
  ∃GV,Ja GV (Ki P ty Wg K j D E X q tag sub X0 f0)/\Inv P ty Wg Ch Pay K T₀ Shun w₀ S₀ L₀ Anch AO GV (Yj gs' w' sl) (t++u):=by
 have hj:=hcs.bound.2;obtain⟨a',Cl,f',ha',KG,dA,hwk⟩:∃a' Cl f',gs'[0]?=some a'/\CSit P ty Wg Ch Pay Anch AO (H.S 0) (H.L 0) Cl sub j f' X0 d0 a' w'/\(Cl=tag\/(tag=.blk/\Cl=.w3))/\(ZcH P g=true->g'.status=.running->Cl≠ .blk):=by
  rcases h0 with h0|⟨h0,h1⟩
  .obtain⟨Cl,f',h2,h3,h4⟩:=hcs.wokenBy R9 hA wu g g'
   exact⟨_,Cl,f',h0,h2,h3,h4⟩
  exact⟨a,tag,f0,h0,hcs.rely wu,.inl rfl,fun x y z=>h1 z ⟨x,y⟩⟩
 have e1:=sumTo_upd D (⟨s',m',dd'⟩:WD) cnt hi;have e2:=sumTo_upd D (⟨s',m',dd'⟩:WD) WD.stage hi;have e3:=sumTo_upd D (⟨s',m',dd'⟩:WD) WD.fuel hi;have e4:=sumTo_upd E e' id hi;refine⟨Ki P ty Wg K j (upd D i ⟨s',m',dd'⟩) (upd E i e') (upd X i x') q Cl sub X0 f',?_,gs',w',sl,j,_,_,_,_,q,d0,vals',Cl,sub,f',X0,a',QA,UG,rfl,ha',?_,B5,Dk,AM Cl dA hwk,fun e=>?_,rfl⟩
 .have ph:=phi_retag 2 (Vc j (upd D i ⟨s',m',dd'⟩)) dA
  unfold Ki;rw[ph];simp only[Vc,Ssum,Fsum,id]at*;rcases Az with⟨h1,_,h2⟩|⟨h1,h2,hm,h3⟩|⟨h1,h2,h3,h4⟩
  .have:=phi_mono 2 (v':=sumTo j fun a=>cnt (upd D i ⟨s',m',dd'⟩ a)) (v:=sumTo j fun a=>cnt (D a)) (by omega) tag
   have e4':(sumTo j fun a=>upd E i e' a)=sumTo j (upd E i e'):=rfl;have ob:(sumTo j fun a=>E a)=sumTo j E:=rfl;rw[e4',ob]at e4;exact mu1 (by omega)
  .have ec:cnt (⟨s',m',dd'⟩:WD)=cnt (D i):=by simp only[cnt,h1]
   have ev:(sumTo j fun a=>cnt (upd D i ⟨s',m',dd'⟩ a))=sumTo j fun a=>cnt (D a):=by omega
   have BA:(sumTo j fun a=>(upd D i ⟨s',m',dd'⟩ a).stage)=sumTo j fun a=>(D a).stage:=by omega
   have ee:sumTo j (upd E i e')=sumTo j E:=by
    have e4':(sumTo j fun a=>upd E i e' a)=sumTo j (upd E i e'):=rfl;have ob:(sumTo j fun a=>E a)=sumTo j E:=rfl;rw[e4',ob]at e4;omega
   rw[ev,BA,ee];rcases Zar i 1 with hi0|hi1
   .obtain rfl:i=0:=by omega
    refine mu2 ?_;rw[upd_same];exact h3
   obtain rfl:i=1:=by omega
   rw[upd_ne _ _ (by omega:(0:Nat)≠1)];refine mu3 ?_;rw[upd_same];exact h3
  have ec:cnt (⟨s',m',dd'⟩:WD)=cnt (D i):=by simp only[cnt,h1]
  have ev:(sumTo j fun a=>cnt (upd D i ⟨s',m',dd'⟩ a))=sumTo j fun a=>cnt (D a):=by omega
  have BA:(sumTo j fun a=>(upd D i ⟨s',m',dd'⟩ a).stage)=sumTo j fun a=>(D a).stage:=by omega
  have ee:sumTo j (upd E i e')=sumTo j E:=by
   have e4':(sumTo j fun a=>upd E i e' a)=sumTo j (upd E i e'):=rfl;have ob:(sumTo j fun a=>E a)=sumTo j E:=rfl;rw[e4',ob]at e4;omega
  have ex:upd X i x'=X:=by
   funext k
   by_cases e:k=i
   .subst e;rw[upd_same,h3]
   rw[upd_ne _ _ e]
  rw[ev,BA,ee,ex];exact mu4 (by omega)
 .rw[(BB (by omega) _ _).1,(BB (by omega) _ _).2]
  exact KG
 rcases dA with rfl|⟨_,rfl⟩
 .exact Jb e
 cases e
variable {Cl:CTag}
def callerStep {lU:Fuel P ty Wg}{d0':Nat}(ha':gs'[0]?=some a')(B5:Com P ty Wg Ch Pay K T₀ Shun w₀ S₀ L₀ j gs' w' (t++u) D E X (H.set 0 S' L') q d0' vals)
 (KG:CSit P ty Wg Ch Pay Anch AO S' L' Cl KP j f' lU d0' a' w') (Dk:WgAt ty Wg w' QA UG) (AM:Ye j D Cl QA UG)
 (Jb:Cl=.ret->AcqAll K Wg T₀ j (t++u))
 (Az:phi 2 (Vc j D) Cl+KP<phi 2 (Vc j D) tag+sub\/(phi 2 (Vc j D) Cl+KP=phi 2 (Vc j D) tag+sub/\(Fuel.lt lU X0\/(lU=X0/\f'<f0)))):
  ∃GV,Ja GV (Ki P ty Wg K j D E X q tag sub X0 f0)/\Inv P ty Wg Ch Pay K T₀ Shun w₀ S₀ L₀ Anch AO GV (Yj gs' w' sl) (t++u):=by
 refine⟨Ki P ty Wg K j D E X q Cl KP lU f',?_,gs',w',sl,j,D,E,X,_,q,d0',vals,Cl,KP,f',lU,a',QA,UG,rfl,ha',by rw[(A6 _ _ _).1,(A6 _ _ _).2];exact KG,B5,Dk,AM,Jb,rfl⟩;unfold Ki;rcases Az with h|⟨h1,h2|⟨rfl,h2⟩⟩
 .exact mu1 (by omega)
 .rw[h1];exact mu5 h2
 rw[h1];exact mu6 h2
end
end Go.Pair
namespace Go.Pair
open Go Go.Conc Go.FA
variable {gs' gs:Array Zi}
def partners_nil (h:∀(i:Nat) g,gs[i]?=some g->g.status≠ .blocked\/g.offers=none)(r:Nat)(send:Bool):partners gs r send=[]:=by
 unfold partners;rw[List.flatMap_eq_nil_iff];rintro⟨g,i⟩ hg;have hm:gs[i]?=some g:=by
  have:=Array.mem_toList_iff.1 hg;rw[Array.mem_zipIdx_iff_getElem?]at this;exact this
 rcases h i g hm with h|h
 .cases hs:g.status<;>simp_all
 cases hs:g.status<;>simp[h]
section
variable {P:Zo}{gs:Array Zi}{w:Zb}{sl:Option (Nat×Nat)}{i:Nat}{g Bs:Zi}{es:Array Z9}{c cap s r:Nat}{buf:Array Zf}{z v:Zf}{tm:Bool}
def Qb (hi:gs[i]?=some g)(h:za P (i==0) g w=.comm Bs #[scase c v z] true .send w es)(hc:w.heap[c]?=some (.chan cap buf false s r tm))(aeT:buf.size<cap)
 (hn:∀(k:Nat) x,gs[k]?=some x->x.status≠ .blocked\/x.offers=none):
  runT P (Yj gs w sl) i=(.next (Yj (gs.setIfInBounds i (YU Bs Ze)) (w.setChan c cap (buf.push v) false (s+1) r tm) sl),
   ZK i g.frame.fn g.frame.place es++ #[{g:=i,fn:=Bs.frame.fn,pos:=Bs.frame.place,act:=.send c s}, {g:=i,fn:=Bs.frame.fn,pos:=Bs.frame.place,act:=.sendDone c s}]):=by
 obtain⟨Az,rfl⟩:=Za.1 hi;have jG:=swapAt_of_lt Az {(default:Zi) with status:=.finished};have hp:partners (gs.set i {(default:Zi) with status:=.finished}) c false=[]:=by
  refine partners_nil (fun k x hk=>?_) _ _;rw[Array.getElem?_set]at hk;split at hk
  .cases hk;exact .inl (by simp)
  exact hn k x hk
 show runT P {world:=w,gs:=gs,rest:= {timers:= #[],alone:=none,slice:=sl}} i=_;unfold runT;simp only[jG,h,GStep.es];simp[communicate,ways,scase,hc,hp,aeT,choose,Sem.run,Question.forced,bind,Zb8,pure,Goroutine.finishComm,commResult,YU,ZbS,Yj];exact set_setIfInBounds Az _ _
end
end Go.Pair
namespace Go.Pair
open Go Go.Conc Go.FA
open Go.ConcN (PermW RelBy WgLive CTag phi pend isOpen isW3 isFin OpenSt AllQuit WD Vc Ssum Fsum cnt sumTo sumTo_upd sumTo_congr upd upd_same upd_ne phi_mono phi_retag others_uncounted le_sumTo Vc_upd bk_cell deafBehind_idle)
open Go.ConcR (KK WgAt stA smA rd wr mk DC0 Bk g_of_ofEvents)
section
variable {P:Zo}{m:Bool}{ty:Zs}{Wg Ch:Nat}{Lk:Nat->Prop}{Stop:Cd}{S L:Nat->Prop}{g:Zi}{w w' x:Zb}{es:Array Z9}{K:Nat}{H:JJ}{p:Nat}{fn:ZaQ}{pos:String}
def Be.at_ (h:Be P m ty Wg Lk Stop S g x)(hr:Ah ty Wg S x w):Stop S g w\/(g.status=.running/\∃g' w' es,za P m g w=.go g' w' es/\LN S Lk w w' es/\∃h':Be P m ty Wg Lk Stop (Ib S w w') g' w',Fuel.lt h'.fuel h.fuel):=by
 by_cases B_:∀w₂,Ah ty Wg S x w₂->Stop S g w₂
 .exact .inl (B_ w hr)
 have key:Be P m ty Wg Lk Stop S g x->(g.status=.running/\∃g' w' es,za P m g w=.go g' w' es/\LN S Lk w w' es/\Be P m ty Wg Lk Stop (Ib S w w') g' w'):=by
  intro h;cases h with
  |stop h=>exact absurd h B_
  |step hs GI EP I6 hh k=>exact⟨hs,_,_,_,(hh w hr).1,(hh w hr).2,k w hr⟩
 obtain⟨hs,g',w',es,h1,h2,h3⟩:=key h;exact .inr ⟨hs,g',w',es,h1,h2,h3,rfl,rfl,B_,w,es,hr,h1,rfl⟩
def Lu {e:Z9}(h:VN S Lk e):e.loc≠ .mark .disable/\e.loc≠ .mark .enable/\∀a,e.loc≠ .mark (.release a):=by
 obtain⟨loc,wr,sy⟩:=e;unfold VN at h;cases loc with
 |mark m=>cases m<;>first|exact h.elim|exact⟨by simp,by simp,by simp⟩
 |_=>exact⟨by simp,by simp,by simp⟩
def Px (hG:LN (H.S p) (H.L p) w w' es)(Jc:∀b,H.S p b->b<w.heap.size):KR Wg K H p w w' (ZK (ix K p) fn pos es):=by
 have IK:∀b,Ib (H.S p) w w' b->b<w'.heap.size:=fun b hb=>hb.elim (fun x=>Zl (Jc b x) hG.size) And.right;refine⟨fun op hop=>by obtain⟨e,_,rfl⟩:=ZQ hop;rfl,fun op hop=>?_,fun op hop x hx=>?_,fun op hop hr=>?_⟩
 all_goals
  obtain⟨e,he,rfl⟩:=ZQ hop;have Ry:=hG.evs e he;obtain⟨loc,wr,sy⟩:=e;unfold VN at Ry
 .cases loc with
  |cell a=>exact IK _ Ry.1
  |obj r=>dsimp only at Ry;cases wr<;>cases sy<;>exact IK _ Ry.1
  |mark m=>cases m<;>first|exact Ry.elim|trivial
  |output=>trivial
  |_=>exact Ry.elim
 .cases loc with
  |cell a=>
   simp only[ZR,Yg,ZJ]at hx;subst hx;exact .inr (.inl ⟨a.block,rfl,Ry.1,Ry.2⟩)
  |obj r=>
   dsimp only at Ry;have:x.loc=.obj r/\x.write=wr:=by cases wr<;>cases sy<;>simp[ZR,Yg]at hx<;>subst hx<;>exact⟨rfl,rfl⟩
   exact .inr (.inl ⟨r,by rw[this.1];rfl,Ry.1,by rw[this.2];exact Ry.2⟩)
  |mark m=>cases m<;>first|exact Ry.elim|(simp[ZR,Yg]at hx)
  |output=>
   simp only[ZR,Yg,ZJ]at hx;subst hx;exact .inr (.inr rfl)
  |_=>exact Ry.elim
 .cases loc with
  |mark m=>cases m<;>first|exact Ry.elim|(simp[ZR]at hr)
  |cell a=>simp[ZR]at hr
  |obj r=>cases wr<;>cases sy<;>simp[ZR]at hr
  |output=>simp[ZR]at hr
  |_=>exact Ry.elim
def FQ (hb:∀e∈es,Bk Wg e)(hW:Wg<w'.heap.size):KR Wg K H p w w' (ZK (ix K p) fn pos es):=by
 refine⟨fun op hop=>by obtain⟨e,_,rfl⟩:=ZQ hop;rfl,fun op hop=>?_,fun op hop x hx=>?_,fun op hop hr=>?_⟩
 all_goals
  obtain⟨e,he,rfl⟩:=ZQ hop;rcases hb e he with h|h|⟨a,wr,rfl,ha⟩
 .rw[zI h];trivial
 .rw[zI h];trivial
 .show a.block<_
  rw[ha];exact hW
 .simp only[zI h]at hx;cases hx
 .simp only[zI h]at hx;cases hx
 .simp only[Zc4,Yg,ZJ]at hx
  subst hx;exact .inl ⟨⟨a,rfl,ha⟩,by simp,by simp⟩
 .simp only[zI h]at hr;cases hr
 .simp only[zI h]at hr;cases hr
 cases hr
def Ip {Sa:Mark}(Jc:(ZdA Sa).low w'.heap.size)(hr:∀a,Sa≠ .release a)(ht:(ZdA Sa).touch?=none\/(p=0/\∃a:Addr,a.block=Wg/\∃wr,(ZdA Sa).touch?=some ⟨.cell a,wr,.said⟩)):
  KR Wg K H p w w' (ZK (ix K p) fn pos #[mk Sa]):=by
 have e1:ZK (ix K p) fn pos #[mk Sa]= #[{g:=ix K p,fn,pos,act:=.mark Sa}]:=by rw[Zb7];simp[Zdq]
 rw[e1];refine⟨fun op hop=>?_,fun op hop=>?_,fun op hop x hx=>?_,fun op hop h=>?_⟩<;>(simp only[List.mem_toArray,List.mem_cons,List.not_mem_nil,or_false]at hop;subst hop)
 .rfl
 .exact Jc
 .rcases ht with ht|⟨rfl,a,ha,wr,ht⟩
  .rw[ht]at hx;cases hx
  rw[ht]at hx;cases hx;exact .inl ⟨⟨a,rfl,ha⟩,by simp,fun _=>rfl⟩
 cases h;exact hr _ rfl
def L0 (h:Aside Wg w w')(hl:WgLive ty Wg w'):Ak ty Wg Ch S L w w':=⟨ZcS h.size.symm,fun b _ _ h1 _=>h.block b h1,h.os,h.tape,h.output,fun _=>hl⟩
def L5 (h:Aside Wg w w')(hl:WgLive ty Wg w')(hS:¬S Wg):Ah ty Wg S w w':=⟨⟨fun b hb=>h.block b (fun e=>hS (e▸hb)),ZcS h.size.symm,h.os⟩,fun _=>hl⟩
end
section
variable {P:Zo}{ty:Zs}{Wg Ch:Nat}{Pay:Nat->Gk}{K T₀:Nat}{Shun:Loc->Prop}{w₀:Zb}{S₀ L₀:Nat->Prop}{Anch AO:Cd}
 {j:Nat} {gs:Array Zi} {w:Zb} {t:YZ} {D:Nat->WD} {E:Nat->Nat} {X:Nat->Fuel P ty Wg} {H:JJ} {q:Nat->Nat} {d0:Nat} {vals:Nat->Zf} {tag:CTag} {sub f0:Nat} {X0:Fuel P ty Wg} {a:Zi} {sl:Option (Nat×Nat)} {st sm:Int}
def VV (K i:Nat)(hK:1<=K):(K+i==0)=false:=by simp;omega
def oe {α:Type}(f:Nat->α)(i:Nat):upd f i (f i)=f:=by
 funext k
 by_cases e:k=i
 .subst e;exact upd_same _ _ _
 exact upd_ne _ _ e
variable {p b i k s' e' m' dd' d KP f' m n:Nat}
variable {g g' a':Zi}
def stepWorker (hP:I' ty Wg Pay)(R9:∀S g w,AO S g w->g.status=.running)(hA:∀S g w,Anch S g w->g.status=.running)
 (ha:gs[0]?=some a) (hcs:CSit P ty Wg Ch Pay Anch AO (H.S 0) (H.L 0) tag sub j f0 X0 d0 a w) (AA:Com P ty Wg Ch Pay K T₀ Shun w₀ S₀ L₀ j gs w t D E X H q d0 vals) (Dk:WgAt ty Wg w st sm) (AM:Ye j D tag st sm)
 (Jb:tag=.ret->AcqAll K Wg T₀ j t) (hi:i<j) (hg:gs[K+i]?=some g) (By:g.status=.running):
  ∃m₁ ops GV,runT P (Yj gs w sl) (K+i)=(.next m₁,ops)/\Ja GV (Ki P ty Wg K j D E X q tag sub X0 f0)/\Inv P ty Wg Ch Pay K T₀ Shun w₀ S₀ L₀ Anch AO GV m₁ (t++ops):=by
 obtain⟨AH,gC,hs⟩:=AA.wk i hi;obtain rfl:g=AH:=by rw[hg]at gC;exact ZW gC
 generalize B_:(D i).stage=s at hs;generalize hfu:(D i).fuel=m at hs;generalize hde:(D i).deaf=dd at hs;generalize lT:E i=e at hs;generalize lV:X i=x at hs;have hb:=hcs.bound;have Fy:=AA.pos;have hVj:=ZdS j D;have jF:Deaf t (K+i)=dd:=by rw[AA.deafW i hi,hde]
 have hp:i+1<=j:=hi;have gD:¬H.S (i+1) Wg:=AA.OQ.wg _ hp;have hS0:¬H.S 0 Wg:=AA.OQ.wg _ (Zp _);have hKi:0<K+i:=by omega
 have Mx:K+i<gs.size:=(Za.1 hg).1;have nr:s≠1->tag≠ .ret:=fun h=>AM.not_ret hi (by omega);have og:∀ {g':Zi} {w':Zb} {es:Array Z9} {s' m' dd':Nat} {QA UG:Int},za P false g w=.go g' w' es->Aside Wg w w'->WgAt ty Wg w' QA UG->KR Wg K H (i+1) w w' (ZK (K+i) g.frame.fn g.frame.place es)->
   WSit P ty Wg Ch (Pay i) (H.S (i+1)) (H.L (i+1)) s' 0 m' dd' (X i) g' w'->zV dd es=dd'->e=0->
   (s'<=6->∃r,I_ Wg T₀ (t++ZK (K+i) g.frame.fn g.frame.place es) (K+i) r)->
   (∀Cl,(Cl=tag\/(tag=.blk/\Cl=.w3))->(ZcH P g=true->g'.status=.running->Cl≠ .blk)->Ye j (upd D i ⟨s',m',dd'⟩) Cl QA UG)->(tag=.ret->AcqAll K Wg T₀ j (t++ZK (K+i) g.frame.fn g.frame.place es))->((s'<s/\cnt ⟨s',m',dd'⟩<=cnt (D i))\/(s'=s/\m'+1=m))->
   ∃m₁ ops GV,runT P (Yj gs w sl) (K+i)=(.next m₁,ops)/\Ja GV (Ki P ty Wg K j D E X q tag sub X0 f0)/\Inv P ty Wg Ch Pay K T₀ Shun w₀ S₀ L₀ Anch AO GV m₁ (t++ops):=by
  intro g' w' es s' m' dd' QA UG hgo gE KS U DX Pv he0 hrel GL au Az;have Ka:WgLive ty Wg w':=⟨_,_,KS⟩;have hW:Ib (H.S (i+1)) w w'=H.S (i+1):=by rw[R8 _ gE.size,Hu]
  have he:upd E i 0=E:=by rw[<-he0, <-lT];exact oe E i
  have hE0:E i=0:=lT.trans he0;have T:Ak ty Wg Ch (H.S (i+1)) (H.L (i+1)) w w':=L0 gE Ka;have FB:=Zb1 (P:=P) (sl:=sl) (i:=K+i) hg (by rw[VV K i Fy];exact hgo);have B5:=AA.stepW hP hi (gs':=(gs.map (woken P g g' w')).setIfInBounds (K+i) g') T U (by rw[hW];exact DX) (by rw[Deaf_own,jF];exact Pv) hrel (by simp) (Zbo _ _ _ Mx)
   (fun k h1 h2=>AA.Gl g g' w' _ h1 h2) (by rw[he];exact AA.ch.CN (gE.block Ch AA.cw)) (fun _ _=>rfl) (fun _=>by rw[hW];exact hP _ _ _ _ _ (AA.pay i hi hE0) (L5 gE Ka gD)) (fun _=>rfl)
  obtain⟨GV,h1,h2⟩:=workerStep (sl:=sl) R9 hA hcs hi (g:=g) (g':=g') (L5 gE Ka hS0) (.inl (by rw[Zcb _ _ _ _ (by omega),ha];rfl)) B5 KS GL au (by
    rcases Az with⟨a1,a2⟩|⟨a1,a2⟩
    .exact .inl ⟨by omega,by omega,a2⟩
    exact .inr (.inr ⟨by omega,by omega,rfl,by omega⟩))
  exact⟨_,_,GV,FB,h1,h2⟩
 have wv:∀ {g':Zi} {w':Zb} {es:Array Z9} {s' m' dd':Nat} {QA UG:Int},za P false g w=.go g' w' es->Aside Wg w w'->WgAt ty Wg w' QA UG->(∀e∈es,Bk Wg e)->
   (∀jx e,es[jx]?=some e->(ZR e).touch?=none\/0<zV dd (es.extract 0 jx))->WSit P ty Wg Ch (Pay i) (H.S (i+1)) (H.L (i+1)) s' 0 m' dd' (X i) g' w'->zV dd es=dd'->s<=6->
   (∀Cl,(Cl=tag\/(tag=.blk/\Cl=.w3))->(ZcH P g=true->g'.status=.running->Cl≠ .blk)->Ye j (upd D i ⟨s',m',dd'⟩) Cl QA UG)->(tag=.ret->AcqAll K Wg T₀ j (t++ZK (K+i) g.frame.fn g.frame.place es))->((s'<s/\cnt ⟨s',m',dd'⟩<=cnt (D i))\/(s'=s/\m'+1=m))->
   ∃m₁ ops GV,runT P (Yj gs w sl) (K+i)=(.next m₁,ops)/\Ja GV (Ki P ty Wg K j D E X q tag sub X0 f0)/\Inv P ty Wg Ch Pay K T₀ Shun w₀ S₀ L₀ Anch AO GV m₁ (t++ops):=by
  intro g' w' es s' m' dd' QA UG hgo gE KS Ga hd DX Pv h6 GL au Az;refine og hgo gE KS (FQ (p:=i+1) (K:=K) Ga (by rw[gE.size];exact AA.IK)) DX Pv (by rw[<-lT];exact AA.e01 i hi (by omega)) (fun _=>?_) GL au Az;obtain⟨r,hr⟩:=AA.rel i hi (by omega);exact⟨r,I_.book hr jF _ _ Ga hd⟩
 have book:∀ {g':Zi} {w':Zb} {es:Array Z9} {s' m' dd':Nat} {QA UG:Int},za P false g w=.go g' w' es->Aside Wg w w'->WgAt ty Wg w' QA UG->(∀e∈es,Bk Wg e)->
   (∀jx e,es[jx]?=some e->(ZR e).touch?=none\/0<zV dd (es.extract 0 jx))->WSit P ty Wg Ch (Pay i) (H.S (i+1)) (H.L (i+1)) s' 0 m' dd' (X i) g' w'->zV dd es=dd'->s<=6->
   Ye j (upd D i ⟨s',m',dd'⟩) tag QA UG->(tag=.ret->AcqAll K Wg T₀ j (t++ZK (K+i) g.frame.fn g.frame.place es))->((s'<s/\cnt ⟨s',m',dd'⟩<=cnt (D i))\/(s'=s/\m'+1=m))->
   ∃m₁ ops GV,runT P (Yj gs w sl) (K+i)=(.next m₁,ops)/\Ja GV (Ki P ty Wg K j D E X q tag sub X0 f0)/\Inv P ty Wg Ch Pay K T₀ Shun w₀ S₀ L₀ Anch AO GV m₁ (t++ops):=
  fun hgo gE KS Ga hd DX Pv h6 GL au Az=>wv hgo gE KS Ga hd DX Pv h6 (fun _ ht _=>GL.retag ht) au Az
 have idle:∀ {g':Zi} {m':Nat},za P false g w=.go g' w #[]->WSit P ty Wg Ch (Pay i) (H.S (i+1)) (H.L (i+1)) s 0 m' dd (X i) g' w->m'+1=m->s<=7->e=0->s≠1->
   ∃m₁ ops GV,runT P (Yj gs w sl) (K+i)=(.next m₁,ops)/\Ja GV (Ki P ty Wg K j D E X q tag sub X0 f0)/\Inv P ty Wg Ch Pay K T₀ Shun w₀ S₀ L₀ Anch AO GV m₁ (t++ops):=by
  intro g' m' hgo DX hm h6 he0 h1;refine og hgo (.refl Wg w) Dk (FQ (p:=i+1) (K:=K) (by simp) AA.IK) DX rfl he0 (fun h=>?_) (fun _ ht _=>ConcN.Mode.retag (by have:=AM.same (i:=i) m' dd;rwa[B_]at this) ht) (fun e=>absurd e (AM.not_ret hi (by omega))) (.inr ⟨rfl,hm⟩);obtain⟨r,hr⟩:=AA.rel i hi (by omega);exact⟨r,I_.book hr jF _ _ (by simp) (by simp)⟩
 cases hs with
 |wk h hr=>
  rcases h.at_ hr with⟨_,Bs,v,z,hsd,jE,m₂,hk⟩|⟨_,g',w',es,hgo,hG,h',hf⟩
  ·
   obtain⟨ord,tm,rJ,nF,wA⟩:=AA.ch;have wB:i∉ord:=fun hx=>by have:=((nF i).1 hx).2;omega
   have hlen:ord.length<2:=by
    match ord,rJ,nF,wB with
    | [],_,_,_=>exact Nat.zero_lt_two
    | [x],_,_,_=>exact Nat.one_lt_two
    |x::y::l,h1,h2,h3=>
     exfalso;have hx:=((h2 x).1 (by simp)).1;have hy:=((h2 y).1 (by simp)).1;have hxy:x≠y:=fun e=>by subst e;simp at h1
     have hxi:x≠i:=fun e=>h3 (by simp[e]);have hyi:y≠i:=fun e=>h3 (by simp[e]);omega
   have jH:∀(k:Nat) x,gs[k]?=some x->x.status≠ .blocked\/x.offers=none:=by
    intro k x hk;have av3:=(Za.1 hk).1;have D':=AA.size;rcases zQ k with rfl|Tr
    .rw[ha]at hk;cases hk
     rcases hcs.status R9 hA with⟨h1,_⟩|⟨_,rfl⟩
     .exact .inl (by rw[h1];simp)
     cases hcs with
     |blk hb=>exact .inr (hb w (Ah.refl w)).2.1
    rcases Zar k K with hkK|hkK
    .exact .inl (by rcases(AA.old k x Tr hkK hk).status with h1|h1<;>rw[h1]<;>simp)
    obtain⟨y,hy,hsy⟩:=AA.wk (k - K) (by omega);rw[show K+(k - K)=k by omega,hk]at hy;cases hy;exact .inl (by rcases hsy.status with h1|⟨h1,_⟩<;>rw[h1]<;>simp)
   have FB:=Qb (P:=P) (sl:=sl) (i:=K+i) hg (by rw[VV K i Fy];exact hsd) wA (by simpa using hlen) jH;generalize rL:w.setChan Ch 2 ((ord.map vals).toArray.push v) false (ord.length+1) 0 tm=w' at FB;have Sb:w'.heap.size=w.heap.size:=by rw[<-rL];simp[ZbS]
   have Qc:∀b,b≠Ch->w'.heap[b]?=w.heap[b]? :=fun b hb=>by rw[<-rL];simp[ZbS,Za0 hb]
   have alb:w'.heap[Ch]?=some (.chan 2 ((ord.map vals).toArray.push v) false (ord.length+1) 0 tm):=by
    have:=AA.TR;rw[<-rL];simp[ZbS,this]
   have Em:∀S:Nat->Prop,¬S Ch->Ah ty Wg S w w':=fun S hS=>⟨⟨fun b hb=>Qc b (fun e=>hS (e▸hb)),ZcS Sb.symm,by rw[<-rL];rfl⟩,fun⟨a,b,hl⟩=>⟨a,b,(Qc Wg (Za0 AA.cw)).trans hl⟩⟩;have hW:Ib (H.S (i+1)) w w'=H.S (i+1):=by rw[R8 _ Sb,Hu]
   have T:Ak ty Wg Ch (H.S (i+1)) (H.L (i+1)) w w':=⟨ZcS Sb.symm,fun b _ _ _ h2=>Qc b h2,by rw[<-rL];rfl,by rw[<-rL];rfl,by rw[<-rL];rfl,(Em (fun _=>False) (fun h=>h)).live⟩;have hu:∀op∈(ZK (K+i) g.frame.fn g.frame.place #[]++ #[{g:=K+i,fn:=Bs.frame.fn,pos:=Bs.frame.place,act:=.send Ch ord.length}, {g:=K+i,fn:=Bs.frame.fn,pos:=Bs.frame.place,act:=.sendDone Ch ord.length}]:YZ),op.g=K+i/\(op.act=.send Ch ord.length\/op.act=.sendDone Ch ord.length):=by
    intro op hop;rw[Zb7]at hop;simp at hop;rcases hop with rfl|rfl
    .exact⟨rfl,.inl rfl⟩
    exact⟨rfl,.inr rfl⟩
   have hut:∀op∈(ZK (K+i) g.frame.fn g.frame.place #[]++ #[{g:=K+i,fn:=Bs.frame.fn,pos:=Bs.frame.place,act:=.send Ch ord.length}, {g:=K+i,fn:=Bs.frame.fn,pos:=Bs.frame.place,act:=.sendDone Ch ord.length}]:YZ),op.act.touch?=none:=by
    intro op hop;rcases(hu op hop).2 with h|h<;>rw[h]<;>rfl
   have U:KR Wg K H (i+1) w w' (ZK (K+i) g.frame.fn g.frame.place #[]++ #[{g:=K+i,fn:=Bs.frame.fn,pos:=Bs.frame.place,act:=.send Ch ord.length}, {g:=K+i,fn:=Bs.frame.fn,pos:=Bs.frame.place,act:=.sendDone Ch ord.length}]:YZ):=by
    have:=AA.TR;refine⟨fun op hop=>(hu op hop).1,fun op hop=>?_,fun op hop x hx=>(by rw[hut op hop]at hx;cases hx),fun op hop hx=>?_⟩
    .rcases(hu op hop).2 with h|h<;>rw[h]<;>(show Ch<_;omega)
    rcases(hu op hop).2 with h|h<;>rw[h]at hx<;>cases hx
   have Kq:Deaf (t++(ZK (K+i) g.frame.fn g.frame.place #[]++ #[{g:=K+i,fn:=Bs.frame.fn,pos:=Bs.frame.place,act:=.send Ch ord.length}, {g:=K+i,fn:=Bs.frame.fn,pos:=Bs.frame.place,act:=.sendDone Ch ord.length}]:YZ)) (K+i)=0:=by
    rw[ConcN.Deaf_still t _ _ fun op hop=>?_]
    .exact jF
    rcases(hu op hop).2 with h|h<;>rw[h]<;>exact⟨by simp,by simp⟩
   have B5:=AA.stepW hP hi (gs':=gs.setIfInBounds (K+i) (YU Bs Ze)) (x':=X i) (s':=7) (e':=0) (m':=m₂) (dd':=0) (vals':=upd vals i v) T U (by rw[hW];exact .r0 (Yb Cs hk (Em _ (AA.OT _ hp)))) Kq (fun h=>by omega) (by simp)
    (by simp[Mx]) (fun k h1 h2=>by rw[Zk (Za0 h2)])
    ⟨ord++ [i],tm,by
     rw[List.nodup_append];refine⟨rJ,by simp,fun a ha b hb=>?_⟩;simp at hb;subst hb;exact fun e=>wB (e▸ha),fun k=>by
     rw[Zab,nF k];constructor
     .rintro(⟨k1,k2⟩|k1)
      .refine⟨k1,?_⟩
       by_cases e:k=i
       .subst e;exact upd_same _ _ _
       rw[upd_ne _ _ e];exact k2
      simp at k1;subst k1;exact⟨hi,upd_same _ _ _⟩
     .rintro⟨k1,k2⟩
      by_cases e:k=i
      .exact .inr (by simp[e])
      rw[upd_ne _ _ e]at k2;exact .inl ⟨k1,k2⟩,by
     rw[alb];have e1:(ord++ [i]).map (upd vals i v)=ord.map vals++ [v]:=by
      rw[Zai,List.map_cons,List.map_nil,upd_same]
      congr 1
      refine List.map_congr_left fun k hk=>?_;exact upd_ne _ _ (fun e=>wB (e▸hk))
     rw[e1];simp⟩
    (fun k hk=>upd_ne _ _ hk) (fun _=>by rw[hW,upd_same];exact hP _ _ _ _ _ jE (Em _ (AA.OT _ hp))) (fun _=>rfl)
   have KS:WgAt ty Wg w' st sm:=(Qc Wg (Za0 AA.cw)).trans Dk;have GL:Ye j (upd D i ⟨7,m₂,0⟩) tag st sm:=by have:=AM.same (i:=i) m₂ 0;rwa[B_]at this
   obtain⟨GV,h1,h2⟩:=workerStep (sl:=sl) R9 hA hcs hi (g:=g) (g':= {g with status:=.blocked}) (Em _ (AA.OT _ (Zp _))) (.inr ⟨by rw[Zk (by omega)];exact ha,fun _ h=>by simp at h⟩) B5 KS (fun _ ht _=>GL.retag ht) (fun e=>absurd e (nr (by omega)))
    (.inl ⟨by omega,by omega,by simp[cnt,B_]⟩)
   exact⟨_,_,GV,FB,h1,h2⟩
  ·
   have Jc:=AA.OQ.low (i+1) hp;have U:KR Wg K H (i+1) w w' (ZK (K+i) g.frame.fn g.frame.place es):=Px hG Jc;have T:Ak ty Wg Ch (H.S (i+1)) (H.L (i+1)) w w':=Ak.gy hG gD AA.IK;have FB:=Zb1 (P:=P) (sl:=sl) (i:=K+i) hg (by rw[VV K i Fy];exact hgo);have Pv:zV 0 es=0:=deafBehind_idle (fun e he=>⟨(Lu (hG.evs e he)).1,(Lu (hG.evs e he)).2.1⟩) 0;have lW:upd E i 1=E:=by rw[<-lT];exact oe E i
   have B5:=AA.stepW hP hi (gs':=(gs.map (woken P g g' w')).setIfInBounds (K+i) g') T U (.wk h' (Ah.refl _)) (by rw[Deaf_own,jF];exact Pv) (fun h=>by omega) (by simp) (Zbo _ _ _ Mx)
    (fun k h1 h2=>AA.Gl g g' w' _ h1 h2) (vals':=vals) (by rw[lW];exact AA.ch.CN (hG.still Ch AA.TR (.inl (AA.OT _ hp)))) (fun _ _=>rfl) (fun h=>by omega) (fun h=>by omega)
   have KS:WgAt ty Wg w' st sm:=(hG.still Wg AA.IK (.inl gD)).trans Dk;have GL:Ye j (upd D i ⟨7,0,0⟩) tag st sm:=by have:=AM.same (i:=i) 0 0;rwa[B_]at this
   obtain⟨GV,h1,h2⟩:=workerStep (sl:=sl) R9 hA hcs hi (g:=g) (g':=g') (AA.VT hp T (Zp _) (by omega)) (.inl (by rw[Zcb _ _ _ _ (by omega),ha];rfl)) B5 KS (fun _ ht _=>GL.retag ht) (fun e=>absurd e (nr (by omega)))
    (.inr (.inl ⟨B_.symm,lT.symm,hfu.symm,by rw[lV];exact hf⟩))
   exact⟨_,_,GV,FB,h1,h2⟩
 |r0 h=>
  rcases zT h with Bt|⟨m',rfl,Bu⟩
  .obtain⟨_,g',hgo,m₂,hk⟩:=Bt w (Ah.refl w)
   have rM:=AA.IK;refine og hgo (.refl Wg w) Dk (Ip (p:=i+1) (K:=K) (by exact rM) (by simp) (.inl rfl)) (.k1 hk) rfl rfl (fun _=>?_) (fun _ ht _=>(AM.counted hi (by omega) (.inl rfl) _ _).retag ht) (fun e=>absurd e (nr (by omega))) (.inl ⟨by omega,by simp[cnt,B_]⟩);refine⟨t.size,RelBy.new (by rw[jF]) _ _,AA.told,fun k a ha _ wm=>.inl ?_⟩;obtain⟨x,hx,_⟩:=ZbE ha;have:=lt_size_of_getElem? hx;rw[Zb7]at this;simp at this;omega
  .obtain⟨g',w',es,hgo,⟨rfl,rfl⟩,GM⟩:=Bu w (Ah.refl w)
   exact idle hgo (.r0 GM) rfl (by omega) rfl (by omega)
 |k1 h=>
  rcases zT h with Bt|⟨m',rfl,Bu⟩
  .obtain⟨_,g',hgo,m₂,hk⟩:=Bt w (Ah.refl w)
   exact book hgo (.refl Wg w) Dk (by intro e he;simp at he;subst he;exact .inl rfl) (by intro jx e he;exact .inl (by have:=zY he;simp at this;subst this;rfl)) (.d1 hk) rfl (by omega)
    (AM.counted hi (by omega) (.inr rfl) _ _) (fun e=>absurd e (nr (by omega))) (.inl ⟨by omega,by simp[cnt,B_]⟩)
  .obtain⟨g',w',es,hgo,⟨rfl,rfl⟩,GM⟩:=Bu w (Ah.refl w)
   exact idle hgo (.k1 GM) rfl (by omega) rfl (by omega)
 |d1 h=>
  rcases zT h with Bt|⟨m',rfl,Bu⟩
  .obtain⟨_,FJ⟩:=Bt w (Ah.refl w)
   have L6:cnt (D i)=1:=by simp[cnt,B_]
   have hV1:1<=Vc j D:=by have:=le_sumTo (f:=fun x=>cnt (D x)) hi;simp only[Vc];omega
   have bk2:∀e∈#[rd (stA Wg),wr (stA Wg)],Bk Wg e:=by intro e he;simp at he;rcases he with rfl|rfl<;>exact bk_cell _ _ rfl
   have df2:∀jx e,(#[rd (stA Wg),wr (stA Wg)]:Array Z9)[jx]?=some e->(ZR e).touch?=none\/0<zV 1 ((#[rd (stA Wg),wr (stA Wg)]:Array Z9).extract 0 jx):=by
    intro jx e he
    match jx,he with
    |0,_=>exact .inr (by simp[zV])
    |1,_=>exact .inr (by simp[zV,rd])
    |jx+2,he=>simp at he
   have hq0:∀q,cnt (⟨1,q,1⟩:WD)=0:=fun _=>rfl;have opq:∀q,OpenSt j D->OpenSt j (upd D i ⟨1,q,1⟩):=fun q h a ha=>by
    by_cases e:a=i
    .subst e;rw[upd_same];simp
    rw[upd_ne D _ e];exact h a ha
   cases AM with
   |opn h1 h2 h3=>
    obtain⟨v,hv⟩:∃v,Vc j D+pend tag=v+1:=⟨Vc j D+pend tag - 1,by omega⟩;rw[hv]at Dk;have lX:WgAt ty Wg w (((v:Nat)+1)*KK+((0:Nat):Int)) 0:=by simpa using Dk
    obtain⟨g',hgo,_,hq⟩:=FJ v 0 (by omega) (by omega) lX;obtain⟨q,hq⟩:=hq (by omega);have iZ:Vc j (upd D i ⟨1,q,1⟩)+pend tag=v:=by have:=Vc_upd D (⟨1,q,1⟩:WD) hi;have:=hq0 q;omega
    refine book hgo (Y8 w (stA Wg) _) (Dk.setSt _) bk2 df2 (.quit hq) rfl (by omega) ?_ (fun e=>absurd e (nr (by omega))) (.inl ⟨by omega,by simp[cnt]⟩);have e:((v:Nat):Int)*KK+((0:Nat):Int)=((Vc j (upd D i ⟨1,q,1⟩)+pend tag:Nat):Int)*KK:=by rw[iZ];simp
    rw[e];exact .opn h1 (opq q h2) (fun vs ev=>by have:=h3 vs ev;omega)
   |reg h1 h2 h3=>
    obtain⟨v,hv⟩:∃v,Vc j D=v+1:=⟨Vc j D - 1,by omega⟩;rw[hv]at Dk;have hp:pend tag=0:=by cases tag<;>first|rfl|exact h1.elim
    have lX:WgAt ty Wg w (((v:Nat)+1)*KK+((1:Nat):Int)) 0:=by simpa using Dk
    obtain⟨g',hgo,hl,hq⟩:=FJ v 1 (by omega) (by omega) lX;by_cases Xf:v=0
    .subst Xf
     obtain⟨m₂,hk⟩:=hl ⟨rfl,rfl⟩;refine book hgo (Y8 w (stA Wg) _) (Dk.setSt _) bk2 df2 (.d2 hk) rfl (by omega) ?_ (fun e=>absurd e (nr (by omega))) (.inl ⟨by omega,by simp[cnt]⟩);have Qc:∀a,a<j->a≠i->(D a).stage=1:=fun a ha e=>by
      have c0:=others_uncounted hi hv L6 a ha e;have:=h2 a ha;simp only[cnt]at c0;split at c0<;>omega
     have:=Zb4 (j:=j) (D:=upd D i ⟨4,m₂,1⟩) (tag:=tag) i h1 hi (by rw[upd_same];simp) (fun a ha e=>by rw[upd_ne D _ e];exact Qc a ha e);rw[upd_same]at this;simpa using this
    .obtain⟨q,hq⟩:=hq (by omega)
     have iZ:Vc j (upd D i ⟨1,q,1⟩)=v:=by have:=Vc_upd D (⟨1,q,1⟩:WD) hi;have:=hq0 q;omega
     refine book hgo (Y8 w (stA Wg) _) (Dk.setSt _) bk2 df2 (.quit hq) rfl (by omega) ?_ (fun e=>absurd e (nr (by omega))) (.inl ⟨by omega,by simp[cnt]⟩);have e:((v:Nat):Int)*KK+((1:Nat):Int)=((Vc j (upd D i ⟨1,q,1⟩):Nat):Int)*KK+1:=by rw[iZ];simp
     rw[e];exact .reg h1 (opq q h2) (by omega)
   |last L _ h2 h3 h4=>
    by_cases e:i=L
    .subst e;omega
    .have:=h4 i hi e;omega
   |sema h2=>have:=h2 i hi;omega
   |fin _ h2=>have:=h2 i hi;omega
  .obtain⟨g',w',es,hgo,⟨rfl,rfl⟩,GM⟩:=Bu w (Ah.refl w)
   exact idle hgo (.d1 GM) rfl (by omega) rfl (by omega)
 |d2 h=>
  rcases zT h with Bt|⟨m',rfl,Bu⟩
  .obtain⟨_,hx⟩:=Bt w (Ah.refl w)
   obtain⟨Hv,Qc,rfl,rfl⟩:=AM.isLast hi (by omega);simp only[B_]at Dk;obtain⟨g',hgo,m₂,hk⟩:=hx (by simpa using Dk);refine book hgo (.refl Wg w) Dk (by intro e he;simp at he;subst he;exact bk_cell _ _ rfl) (by intro jx e he;match jx,he with|0,_=>exact .inr (by simp[zV])|jx+1,he=>simp at he) (.d3 hk) rfl (by omega) ?_ (fun e=>absurd e (nr (by omega))) (.inl ⟨by omega,by simp[cnt]⟩);have:=Zb4 (j:=j) (D:=upd D i ⟨3,m₂,1⟩) (tag:=tag) i Hv hi (by rw[upd_same];simp) (fun a ha e=>by rw[upd_ne D _ e];exact Qc a ha e);rw[upd_same]at this;simpa using this
  .obtain⟨g',w',es,hgo,⟨rfl,rfl⟩,GM⟩:=Bu w (Ah.refl w)
   exact idle hgo (.d2 GM) rfl (by omega) rfl (by omega)
 |d3 h=>
  rcases zT h with Bt|⟨m',rfl,Bu⟩
  .obtain⟨_,hx⟩:=Bt w (Ah.refl w)
   obtain⟨Hv,Qc,rfl,rfl⟩:=AM.isLast hi (by omega);simp only[B_]at Dk;obtain⟨g',hgo,m₂,hk⟩:=hx (by simpa using Dk);refine book hgo (Y8 w (stA Wg) _) (Dk.setSt 0) (by intro e he;simp at he;subst he;exact bk_cell _ _ rfl) (by intro jx e he;match jx,he with|0,_=>exact .inr (by simp[zV])|jx+1,he=>simp at he) (.d4 hk) rfl (by omega) ?_ (fun e=>absurd e (nr (by omega))) (.inl ⟨by omega,by simp[cnt]⟩);have:=Zb4 (j:=j) (D:=upd D i ⟨2,m₂,1⟩) (tag:=tag) i Hv hi (by rw[upd_same];simp) (fun a ha e=>by rw[upd_ne D _ e];exact Qc a ha e);rw[upd_same]at this;simpa using this
  .obtain⟨g',w',es,hgo,⟨rfl,rfl⟩,GM⟩:=Bu w (Ah.refl w)
   exact idle hgo (.d3 GM) rfl (by omega) rfl (by omega)
 |d4 h=>
  rcases zT h with Bt|⟨m',rfl,Bu⟩
  .obtain⟨_,hmw,hx⟩:=Bt w (Ah.refl w)
   obtain⟨Hv,Qc,rfl,rfl⟩:=AM.isLast hi (by omega);simp only[B_]at Dk;obtain⟨g',hgo,q,hq⟩:=hx (by simpa using Dk);have UH:g'.status=.running:=by
    cases q with
    |zero=>exact absurd hq.2 (by decide)
    |succ q=>exact hq.elim (fun x=>absurd x.2 (by decide)) (fun x=>x.1)
   refine wv hgo (Y8 w (smA Wg) _) (Dk.setSm 1) (es:=Zax (smA Wg)) ?_ ?_ (.quit hq) (by simp[zV,Zax]) (by omega) ?_ (fun e=>absurd e (nr (by omega))) (.inl ⟨by omega,by simp[cnt]⟩)
   .intro e he
    simp[Zax]at he;rcases he with rfl|rfl|rfl|rfl
    .exact .inl rfl
    .exact bk_cell _ _ rfl
    .exact bk_cell _ _ rfl
    exact .inr (.inl rfl)
   .intro jx e he
    match jx,he with
    |0,he=>simp[Zax]at he;subst he;exact .inl rfl
    |1,_=>exact .inr (by simp[zV,Zax])
    |2,_=>exact .inr (by simp[zV,Zax])
    |3,he=>simp[Zax]at he;subst he;exact .inl rfl
    |jx+4,he=>simp[Zax]at he
   intro Cl ht hw;have hnb:=hw hmw UH;have e3:Cl=.w3:=by
    rcases ht with rfl|⟨_,rfl⟩
    .cases Cl<;>first|rfl|exact Hv.elim|exact absurd rfl hnb
    rfl
   subst e3;simp only[if_true];exact .sema fun a ha=>by
    by_cases e:a=i
    .subst e;rw[upd_same]
    rw[upd_ne D _ e];exact Qc a ha e
  .obtain⟨g',w',es,hgo,⟨rfl,rfl⟩,GM⟩:=Bu w (Ah.refl w)
   exact idle hgo (.d4 GM) rfl (by omega) rfl (by omega)
 |quit h=>
  cases m with
  |zero=>rw[h.1]at By;cases By
  |succ q=>
   rcases h with⟨hf,_⟩|⟨_,g',es,wC,Bu,hq⟩
   .rw[hf]at By;cases By
   have Ga:∀e∈es,Bk Wg e:=fun e he=>Go.ConcR.bk_of_mute (wC e he);have KJ:∀jx e,es[jx]?=some e->(ZR e).touch?=none\/0<zV dd (es.extract 0 jx):=fun jx e he=>.inl (touch_mute (wC e (zY he)));refine book (Bu w) (.refl Wg w) Dk Ga KJ (.quit hq) rfl (by omega) (by have:=AM.same (i:=i) q (zV dd es);rwa[B_]at this) (fun e=>(Jb e).app fun i' r DN hr=>?_) (.inr ⟨rfl,rfl⟩);by_cases e':i'=i
   .subst e';exact I_.book hr jF _ _ Ga KJ
   exact I_.other hr fun op hop=>by
    obtain⟨e,_,rfl⟩:=ZQ hop;show K+i≠K+i';omega
end
end Go.Pair
namespace Go.Pair
open Go Go.Conc Go.FA
open Go.ConcN (PermW RelBy WgLive CTag phi pend isOpen isW3 isFin OpenSt AllQuit WD Vc Ssum Fsum cnt sumTo sumTo_upd sumTo_congr sumTo_upd_out upd upd_same upd_ne phi_mono phi_retag allQuit_of bk_cell bk_dis bk_en bk_rd bk_rw bk_sem)
open Go.ConcR (KK WgAt stA smA rd wr mk DC0 Bk g_of_ofEvents)
section
variable(P:Zo)(ty:Zs)(Wg Ch:Nat)(Pay:Nat->Gk)(K T₀:Nat)(Shun:Loc->Prop)(w₀:Zb)(S₀ L₀:Nat->Prop)(Anch AO:Cd)
def Fin (m:Machine)(t:YZ):Prop:=
 ∃(gs:Array Zi) (w:Zb) (sl:Option (Nat×Nat)) (D:Nat->WD) (E:Nat->Nat) (X:Nat->Fuel P ty Wg) (H:JJ) (q:Nat->Nat) (vals:Nat->Zf) (a:Zi),
  m=Yj gs w sl/\gs[0]?=some a/\Anch (H.S 0) a w/\Com P ty Wg Ch Pay K T₀ Shun w₀ S₀ L₀ 2 gs w t D E X H q 0 vals/\WgAt ty Wg w 0 0/\AllQuit 2 D/\AcqAll K Wg T₀ 2 t
end
section
variable {P:Zo}{ty:Zs}{Wg Ch:Nat}{Pay:Nat->Gk}{K T₀:Nat}{Shun:Loc->Prop}{w₀:Zb}{S₀ L₀:Nat->Prop}{Anch AO:Cd}
 {j:Nat} {gs:Array Zi} {w:Zb} {t:YZ} {D:Nat->WD} {E:Nat->Nat} {X:Nat->Fuel P ty Wg} {H:JJ} {q:Nat->Nat} {d0:Nat} {vals:Nat->Zf} {tag:CTag} {sub f0:Nat} {X0:Fuel P ty Wg} {a:Zi} {sl:Option (Nat×Nat)} {st sm:Int}
variable {g g' a':Zi}
variable {w' w₁ w₂:Zb}
variable {es:Array Z9}
variable {Cl:CTag}
variable {p b i k s' e' m' dd' d KP f' m n:Nat}
variable {QA UG:Int}
def bookC (hP:I' ty Wg Pay)(ha:gs[0]?=some a)(AA:Com P ty Wg Ch Pay K T₀ Shun w₀ S₀ L₀ j gs w t D E X H q d0 vals)
 {lU:Fuel P ty Wg} (hgo:za P true a w=.go a' w' es) (gE:Aside Wg w w') (KS:WgAt ty Wg w' QA UG)
 (U:KR Wg K H 0 w w' (ZK 0 a.frame.fn a.frame.place es)) (KG:CSit P ty Wg Ch Pay Anch AO (H.S 0) (H.L 0) Cl KP j f' lU (zV d0 es) a' w') (AM:Ye j D Cl QA UG)
 (Jb:Cl=.ret->AcqAll K Wg T₀ j (t++ZK 0 a.frame.fn a.frame.place es))
 (Az:phi 2 (Vc j D) Cl+KP<phi 2 (Vc j D) tag+sub\/(phi 2 (Vc j D) Cl+KP=phi 2 (Vc j D) tag+sub/\(Fuel.lt lU X0\/(lU=X0/\f'<f0)))):
  ∃m₁ ops GV,runT P (Yj gs w sl) 0=(.next m₁,ops)/\Ja GV (Ki P ty Wg K j D E X q tag sub X0 f0)/\Inv P ty Wg Ch Pay K T₀ Shun w₀ S₀ L₀ Anch AO GV m₁ (t++ops):=by
 have Ka:WgLive ty Wg w':=⟨_,_,KS⟩;have hW:Ib (H.S 0) w w'=H.S 0:=by rw[R8 _ gE.size,Hu]
 have T:Ak ty Wg Ch (H.S 0) (H.L 0) w w':=L0 gE Ka;have FB:=Zb1 (P:=P) (sl:=sl) (i:=0) ha (by simpa using hgo);have Mx:0<gs.size:=(Za.1 ha).1;have B5:=AA.step0 hP (gs':=(gs.map (woken P a a' w')).setIfInBounds 0 a') (by simp) (fun k hk=>AA.Gl a a' w' 0 hk (by omega)) T U (gE.block Ch AA.cw);rw[Deaf_own,AA.deaf0]at B5;obtain⟨GV,h1,h2⟩:=callerStep (sl:=sl) (tag:=tag) (sub:=sub) (X0:=X0) (f0:=f0) (a':=a') (by simp[Mx]) B5 (by rw[hW];exact KG) KS AM Jb Az;exact⟨_,_,GV,FB,h1,h2⟩
def idleC (hP:I' ty Wg Pay)(ha:gs[0]?=some a)(AA:Com P ty Wg Ch Pay K T₀ Shun w₀ S₀ L₀ j gs w t D E X H q d0 vals)(Dk:WgAt ty Wg w st sm)(AM:Ye j D tag st sm)(Jb:tag=.ret->AcqAll K Wg T₀ j t)
 (hgo:za P true a w=.go a' w #[]) (KG:CSit P ty Wg Ch Pay Anch AO (H.S 0) (H.L 0) tag sub j f' X0 d0 a' w) (Az:f'<f0):
  ∃m₁ ops GV,runT P (Yj gs w sl) 0=(.next m₁,ops)/\Ja GV (Ki P ty Wg K j D E X q tag sub X0 f0)/\Inv P ty Wg Ch Pay K T₀ Shun w₀ S₀ L₀ Anch AO GV m₁ (t++ops):=
 bookC hP ha AA hgo (.refl Wg w) Dk (FQ (p:=0) (K:=K) (by simp) AA.IK) KG AM (fun e=>(Jb e).app fun i r _ hr=>I_.other hr fun op hop=>by
  obtain⟨e,he,_⟩:=ZQ hop;simp at he) (.inr ⟨rfl,.inr ⟨rfl,Az⟩⟩)
def wD (hP:I' ty Wg Pay)(ha:gs[0]?=some a)(AA:Com P ty Wg Ch Pay K T₀ Shun w₀ S₀ L₀ j gs w t D E X H q 0 vals)(Dk:WgAt ty Wg w st sm)(AM:Ye j D tag st sm)(BL:tag≠ .ret)
 {lU:Fuel P ty Wg} (hgo:za P true a w=.go a' w' es) (hG:LN (H.S 0) (H.L 0) w w' es)
 (KG:CSit P ty Wg Ch Pay Anch AO (Ib (H.S 0) w w') (H.L 0) tag sub j 0 lU 0 a' w') (Az:Fuel.lt lU X0):
  ∃m₁ ops GV,runT P (Yj gs w sl) 0=(.next m₁,ops)/\Ja GV (Ki P ty Wg K j D E X q tag sub X0 f0)/\Inv P ty Wg Ch Pay K T₀ Shun w₀ S₀ L₀ Anch AO GV m₁ (t++ops):=by
 have hz:(0:Nat)<=j:=Zp _;have gD:=AA.OQ.wg 0 hz;have U:KR Wg K H 0 w w' (ZK 0 a.frame.fn a.frame.place es):=Px hG (AA.OQ.low 0 hz);have T:Ak ty Wg Ch (H.S 0) (H.L 0) w w':=Ak.gy hG gD AA.IK;have FB:=Zb1 (P:=P) (sl:=sl) (i:=0) ha (by simpa using hgo);have Mx:0<gs.size:=(Za.1 ha).1;have B5:=AA.step0 hP (gs':=(gs.map (woken P a a' w')).setIfInBounds 0 a') (by simp) (fun k hk=>AA.Gl a a' w' 0 hk (by omega)) T U (hG.still Ch AA.TR (.inl (AA.OT 0 hz)));rw[Deaf_own,AA.deaf0,ConcN.deafBehind_idle (fun e he=>⟨(Lu (hG.evs e he)).1,(Lu (hG.evs e he)).2.1⟩)]at B5;obtain⟨GV,h1,h2⟩:=callerStep (sl:=sl) (tag:=tag) (sub:=sub) (X0:=X0) (f0:=f0) (a':=a') (by simp[Mx]) B5 KG ((hG.still Wg AA.IK (.inl gD)).trans Dk) AM (fun e=>absurd e BL) (.inr ⟨rfl,.inl Az⟩);exact⟨_,_,GV,FB,h1,h2⟩
def w1Step (hP:I' ty Wg Pay)(ha:gs[0]?=some a)(AA:Com P ty Wg Ch Pay K T₀ Shun w₀ S₀ L₀ 2 gs w t D E X H q 1 vals)(Dk:WgAt ty Wg w st sm)(AM:Ye 2 D .w1 st sm)(h:Goes P true (Ah ty Wg (H.S 0)) DC0 (AtW1 P ty Wg Anch AO (H.S 0)) m a w)(hb:phi 2 (Vc 2 D) .w1<phi 2 (Vc 2 D) tag+sub\/(tag=.w1/\sub=0/\f0=m)):
  ∃m₁ ops GV,runT P (Yj gs w sl) 0=(.next m₁,ops)/\Ja GV (Ki P ty Wg K 2 D E X q tag sub X0 f0)/\Inv P ty Wg Ch Pay K T₀ Shun w₀ S₀ L₀ Anch AO GV m₁ (t++ops):=by
 have hVj:=ZdS 2 D;have G1:phi 2 (Vc 2 D) .w1<=phi 2 (Vc 2 D) tag+sub:=by
  rcases hb with h|⟨rfl,rfl,_⟩<;>omega
 rcases zT h with Bt|⟨m',rfl,Bu⟩
 .obtain⟨_,FJ⟩:=Bt w (Ah.refl w)
  obtain⟨ho,rfl,rfl,_⟩:=AM.open_inv trivial;obtain⟨a',hgo,h0,h1⟩:=FJ (Vc 2 D) (by omega) (by simpa[pend]using Dk);by_cases e:Vc 2 D=0
  .obtain⟨m₂,hk⟩:=h0 e
   refine bookC hP ha AA hgo (.refl Wg w) Dk (FQ (p:=0) (K:=K) bk_rd AA.IK) (.ke (X:=X0) hk) ?_ (by simp) (.inl (by simp only[phi]at G1⊢;omega));have:((Vc 2 D+pend CTag.w1:Nat):Int)*KK=0:=by rw[e];simp[pend]
   rw[this];exact .fin trivial (allQuit_of ho e)
  obtain⟨m₂,hk⟩:=h1 e;exact bookC hP ha AA hgo (.refl Wg w) Dk (FQ (p:=0) (K:=K) bk_rd AA.IK) (.w2 (X:=X0) hk) (AM.reopen trivial trivial rfl (fun vs ev=>by cases ev;omega)) (by simp) (.inl (by simp only[phi]at G1⊢;omega))
 obtain⟨a',w',es,hgo,⟨rfl,rfl⟩,GM⟩:=Bu w (Ah.refl w);refine bookC hP ha AA hgo (.refl Wg _) Dk (FQ (p:=0) (K:=K) (by simp) AA.IK) (.w1 (X:=X0) GM) AM (by simp) ?_;rcases hb with h|⟨rfl,rfl,rfl⟩
 .exact .inl (by omega)
 exact .inr ⟨rfl,.inr ⟨rfl,by omega⟩⟩
def stepCaller (hP:I' ty Wg Pay)(s9:∀S g w,AO S g w->∃m,Goes P true (Ah ty Wg S) DC0 (AtW1 P ty Wg Anch AO S) m g w)
 (ha:gs[0]?=some a) (hcs:CSit P ty Wg Ch Pay Anch AO (H.S 0) (H.L 0) tag sub j f0 X0 d0 a w) (AA:Com P ty Wg Ch Pay K T₀ Shun w₀ S₀ L₀ j gs w t D E X H q d0 vals) (Dk:WgAt ty Wg w st sm) (AM:Ye j D tag st sm)
 (Jb:tag=.ret->AcqAll K Wg T₀ j t) (By:a.status=.running) (hnf:¬(tag=.ret/\∀w₁,Ah ty Wg (H.S 0) w w₁->Anch (H.S 0) a w₁)):
  ∃m₁ ops GV,runT P (Yj gs w sl) 0=(.next m₁,ops)/\Ja GV (Ki P ty Wg K j D E X q tag sub X0 f0)/\Inv P ty Wg Ch Pay K T₀ Shun w₀ S₀ L₀ Anch AO GV m₁ (t++ops):=by
 have hVj:=ZdS j D;have rM:=AA.IK;have Ga:∀ {es:Array Z9} {fn:ZaQ} {pos:String} {w':Zb},w'.heap.size=w.heap.size->(∀e∈es,Bk Wg e)->KR Wg K H 0 w w' (ZK 0 fn pos es):=fun hs hb=>FQ (p:=0) (K:=K) hb (by rw[hs];exact rM);have Ba:∀(a:Addr) (v:Zf),(w.setCell a v).heap.size=w.heap.size:=fun a v=>by simp[Z8]
 cases hcs with
 |skd hr h hw=>
  rename_i r;rcases h.at_ hw with⟨_,a',hgo,m₂,hk⟩|⟨_,a',w',es,hgo,hG,h',hf⟩
  .exact bookC hP ha AA hgo (.refl Wg w) Dk (Ga rfl bk_dis) (.sa1 (X:=h.fuel) hr hk) (AM.reopen trivial trivial rfl (by simp)) (by simp) (.inl (by simp only[phi];omega))
  .exact wD hP ha AA Dk AM (by simp) hgo hG (.skd hr h' (Ah.refl _)) hf
 |sa1 hr h=>
  rename_i r;rcases zT h with Bt|⟨m',rfl,Bu⟩
  .obtain⟨_,FJ⟩:=Bt w (Ah.refl w)
   obtain⟨ho,rfl,rfl,_⟩:=AM.open_inv trivial;obtain⟨a',hgo,h0,h1⟩:=FJ (Vc (2 - (r+1)) D) (by omega) (by simpa[pend]using Dk);have e:(((Vc (2 - (r+1)) D:Nat):Int)+1)*KK=((Vc (2 - (r+1)) D+pend (.sp r 3):Nat):Int)*KK:=by simp[pend]
   have hm:Ye (2 - (r+1)) D (.sp r 3) ((((Vc (2 - (r+1)) D:Nat):Int)+1)*KK) 0:=by
    rw[e];exact .opn trivial ho (by simp)
   by_cases e0:Vc (2 - (r+1)) D=0
   .obtain⟨m₂,hk⟩:=h0 e0
    exact bookC hP ha AA hgo (Y8 w (stA Wg) _) (Dk.setSt _) (Ga (Ba _ _) bk_rw) (.ssr (X:=X0) hr hk) hm (by simp) (.inl (by simp only[phi];omega))
   obtain⟨m₂,hk⟩:=h1 e0;exact bookC hP ha AA hgo (Y8 w (stA Wg) _) (Dk.setSt _) (Ga (Ba _ _) bk_rw) (.ske (X:=X0) hr hk) hm (by simp) (.inl (by simp only[phi];omega))
  .obtain⟨a',w',es,hgo,⟨rfl,rfl⟩,GM⟩:=Bu w (Ah.refl w)
   exact idleC hP ha AA Dk AM (by simp) hgo (.sa1 hr GM) (by omega)
 |ssr hr h=>
  rename_i r;rcases zT h with Bt|⟨m',rfl,Bu⟩
  .obtain⟨_,a',hgo,m₂,hk⟩:=Bt w (Ah.refl w)
   exact bookC hP ha AA hgo (.refl Wg w) Dk (Ip (p:=0) (K:=K) (by exact rM) (by simp) (.inr ⟨rfl,smA Wg,rfl,false,rfl⟩)) (.ske (X:=X0) hr hk) AM (by simp) (.inl (by omega))
  .obtain⟨a',w',es,hgo,⟨rfl,rfl⟩,GM⟩:=Bu w (Ah.refl w)
   exact idleC hP ha AA Dk AM (by simp) hgo (.ssr hr GM) (by omega)
 |ske hr h=>
  rcases zT h with Bt|⟨m',rfl,Bu⟩
  .obtain⟨_,a',hgo,m₂,hk⟩:=Bt w (Ah.refl w)
   exact bookC hP ha AA hgo (.refl Wg w) Dk (Ga rfl bk_en) (.sgo (X:=X0) hr hk) (AM.reopen trivial trivial rfl (by simp)) (by simp) (.inl (by simp only[phi];omega))
  .obtain⟨a',w',es,hgo,⟨rfl,rfl⟩,GM⟩:=Bu w (Ah.refl w)
   exact idleC hP ha AA Dk AM (by simp) hgo (.ske hr GM) (by omega)
 |sgo hr h=>
  rename_i r;rcases zT h with Bt|⟨m',rfl,Bu⟩
  .obtain⟨_,a',child,Jv,hwk,Py⟩:=Bt w (Ah.refl w)
   obtain⟨ho,rfl,rfl,_⟩:=AM.open_inv trivial;have UH:=runT_crowd_spawn (P:=P) (sl:=sl) (i:=0) ha (by simpa using Jv);have Fy:=AA.pos;rw[AA.size]at UH;have B5:=AA.spawn (a':=a') (x:= {g:=0,fn:=a.frame.fn,pos:=a.frame.place,act:=.go (K+(2 - (r+1)))}) (y:= {g:=K+(2 - (r+1)),fn:=child.frame.fn,pos:=a.frame.place,act:=.start}) ⟨rfl,rfl⟩ ⟨rfl,rfl⟩ hwk;have eV:Vc (2 - (r+1)+1) (upd D (2 - (r+1)) ⟨7,0,0⟩)=Vc (2 - (r+1)) D+1:=by
    simp only[Vc,sumTo,upd_same];rw[sumTo_upd_out D _ cnt (Zj _)];rfl
   have eS:Ssum (2 - (r+1)+1) (upd D (2 - (r+1)) ⟨7,0,0⟩)=Ssum (2 - (r+1)) D+7:=by
    simp only[Ssum,sumTo,upd_same];rw[sumTo_upd_out D _ WD.stage (Zj _)]
   have eE:sumTo (2 - (r+1)+1) (upd E (2 - (r+1)) 1)=sumTo (2 - (r+1)) E+1:=by
    simp only[sumTo,upd_same];have:=sumTo_upd_out E 1 id (Zj (2 - (r+1)));have e1:(sumTo (2 - (r+1)) fun a=>id (upd E (2 - (r+1)) 1 a))=sumTo (2 - (r+1)) (upd E (2 - (r+1)) 1):=rfl;have e2:(sumTo (2 - (r+1)) fun a=>id (E a))=sumTo (2 - (r+1)) E:=rfl;rw[e1,e2]at this;rw[this]
   have rH:OpenSt (2 - (r+1)+1) (upd D (2 - (r+1)) ⟨7,0,0⟩):=fun i hi=>by
    by_cases e:i=2 - (r+1)
    .subst e;rw[upd_same];simp
    rw[upd_ne D _ e];exact ho i (by omega)
   have ha':((gs.setIfInBounds 0 a').push child)[0]?=some a':=by
    have D':=AA.size;rw[Zd3 (by simp;omega), <-Zx,ZV (by omega)]
   have hS0:((H.set (2 - (r+1)+1) (H.S 0) (H.S 0)).set 0 (H.S 0) (H.S 0)).S 0=H.S 0:=(A6 _ _ _).1;have hL0:((H.set (2 - (r+1)+1) (H.S 0) (H.S 0)).set 0 (H.S 0) (H.S 0)).L 0=H.S 0:=(A6 _ _ _).2;have est:∀Cl,pend Cl=0->((Vc (2 - (r+1)) D+pend (.sp r 2):Nat):Int)*KK=((Vc (2 - (r+1)+1) (upd D (2 - (r+1)) ⟨7,0,0⟩)+pend Cl:Nat):Int)*KK:=fun Cl hp=>by rw[eV,hp];simp[pend]
   have ald:((ZK 0 a.frame.fn a.frame.place #[]).push {g:=0,fn:=a.frame.fn,pos:=a.frame.place,act:=.go (K+(2 - (r+1)))}).push {g:=K+(2 - (r+1)),fn:=child.frame.fn,pos:=a.frame.place,act:=.start}= #[{g:=0,fn:=a.frame.fn,pos:=a.frame.place,act:=.go (K+(2 - (r+1)))}, {g:=K+(2 - (r+1)),fn:=child.frame.fn,pos:=a.frame.place,act:=.start}]:=by
    rw[Zb7];simp
   rw[ald]at UH;have Xg:r=0\/r=1:=by omega
   rcases Xg with rfl|rfl
   .refine⟨_,_,_,UH,?_,_,w,sl,2,_,_,_,_,q,0,vals,.kd,0,0,Be.fuel Py,a',_,_,rfl,ha',?_,B5,Dk,?_,by simp,rfl⟩
    .have eV':Vc 2 (upd D 1 ⟨7,0,0⟩)=Vc 1 D+1:=eV
     have eS':Ssum 2 (upd D 1 ⟨7,0,0⟩)=Ssum 1 D+7:=eS;have eE':sumTo 2 (upd E 1 1)=sumTo 1 E+1:=eE;refine mu1 ?_;show phi 2 _ .kd+0+Ssum 2 (upd D 1 ⟨7,0,0⟩)+sumTo 2 (upd E 1 1)<phi 2 _ (.sp 0 2)+0+Ssum 1 D+sumTo 1 E;simp only[phi];omega
    .rw[hS0,hL0]
     exact .kd Py (Ah.refl w)
    rw[est .kd rfl];exact .opn trivial rH (by simp)
   refine⟨_,_,_,UH,?_,_,w,sl,1,_,_,_,_,q,0,vals,.sp 0 5,1,0,Be.fuel Py,a',_,_,rfl,ha',?_,B5,Dk,?_,by simp,rfl⟩
   .have eS':Ssum 1 (upd D 0 ⟨7,0,0⟩)=Ssum 0 D+7:=eS
    have eE':sumTo 1 (upd E 0 1)=sumTo 0 E+1:=eE;refine mu1 ?_;show phi 2 _ (.sp 0 5)+1+Ssum 1 (upd D 0 ⟨7,0,0⟩)+sumTo 1 (upd E 0 1)<phi 2 _ (.sp 1 2)+0+Ssum 0 D+sumTo 0 E;simp only[phi];omega
   .rw[hS0,hL0]
    exact .skd (r:=0) (by omega) Py (Ah.refl w)
   rw[est (.sp 0 5) rfl];exact .opn trivial rH (by simp)
  .obtain⟨a',w',es,hgo,⟨rfl,rfl⟩,GM⟩:=Bu w (Ah.refl w)
   exact idleC hP ha AA Dk AM (by simp) hgo (.sgo hr GM) (by omega)
 |kd h hw=>
  rcases h.at_ hw with⟨_,a',hgo,m₂,hk⟩|⟨_,a',w',es,hgo,hG,h',hf⟩
  .exact bookC hP ha AA hgo (.refl Wg w) Dk (Ga rfl bk_dis) (.anch (X:=h.fuel) hk) (AM.reopen trivial trivial rfl (by simp)) (by simp) (.inl (by simp only[phi];omega))
  .exact wD hP ha AA Dk AM (by simp) hgo hG (.kd h' (Ah.refl _)) hf
 |anch h=>
  rcases zT h with Bt|⟨m',rfl,Bu⟩
  .obtain⟨m₂,hk⟩:=s9 _ a w (Bt w (Ah.refl w))
   exact w1Step hP ha AA Dk (AM.reopen trivial trivial rfl (by simp)) hk (.inl (by simp only[phi];omega))
  .obtain⟨a',w',es,hgo,⟨rfl,rfl⟩,GM⟩:=Bu w (Ah.refl w)
   exact idleC hP ha AA Dk AM (by simp) hgo (.anch GM) (by omega)
 |w1 h=>exact w1Step hP ha AA Dk AM h (.inr ⟨rfl,rfl,rfl⟩)
 |w2 h=>
  rename_i vs;rcases zT h with Bt|⟨m',rfl,Bu⟩
  .obtain⟨_,FJ⟩:=Bt w (Ah.refl w)
   obtain⟨ho,rfl,rfl,nj⟩:=AM.open_inv trivial;obtain⟨hle,h1⟩:=nj vs rfl;obtain⟨ale,aeW⟩:=FJ (Vc 2 D) (by omega) (by simpa[pend]using Dk);by_cases e:Vc 2 D=vs
   .obtain⟨a',hgo,m₂,hk⟩:=ale e
    exact bookC hP ha AA hgo (Y8 w (stA Wg) _) (Dk.setSt _) (Ga (Ba _ _) bk_rw) (.sw (X:=X0) hk) (.reg trivial ho (by omega)) (by simp) (.inl (by simp only[phi];omega))
   obtain⟨a',hgo,m₂,hk⟩:=aeW e;exact bookC hP ha AA hgo (.refl Wg w) Dk (Ga rfl bk_rd) (.anch (X:=X0) hk) (AM.reopen trivial trivial rfl (by simp)) (by simp) (.inl (by simp only[phi];omega))
  .obtain⟨a',w',es,hgo,⟨rfl,rfl⟩,GM⟩:=Bu w (Ah.refl w)
   exact idleC hP ha AA Dk AM (by simp) hgo (.w2 GM) (by omega)
 |sw h=>
  rcases zT h with Bt|⟨m',rfl,Bu⟩
  .obtain⟨_,a',hgo,m₂,hk⟩:=Bt w (Ah.refl w)
   exact bookC hP ha AA hgo (.refl Wg w) Dk (Ip (p:=0) (K:=K) (by exact rM) (by simp) (.inr ⟨rfl,smA Wg,rfl,true,rfl⟩)) (.w3 (X:=X0) hk) AM (by simp) (.inl (by omega))
  .obtain⟨a',w',es,hgo,⟨rfl,rfl⟩,GM⟩:=Bu w (Ah.refl w)
   exact idleC hP ha AA Dk AM (by simp) hgo (.sw GM) (by omega)
 |w3 h=>
  rcases zT h with Bt|⟨m',rfl,Bu⟩
  .obtain⟨_,al2,jH,aeX⟩:=Bt w (Ah.refl w)
   cases AM with
   |opn h1 _ _=>exact h1.elim
   |reg h1 h2 h3=>exact bookC hP ha AA (jH ⟨_,Dk⟩) (.refl Wg w) Dk (Ga rfl (by simp)) (.blk (X:=X0) Bt) (.reg trivial h2 h3) (by simp) (.inr ⟨rfl,.inr ⟨rfl,by omega⟩⟩)
   |last L h1 h2 h3 h4=>exact bookC hP ha AA (jH ⟨_,Dk⟩) (.refl Wg w) Dk (Ga rfl (by simp)) (.blk (X:=X0) Bt) (.last L trivial h2 h3 h4) (by simp) (.inr ⟨rfl,.inr ⟨rfl,by omega⟩⟩)
   |sema h2=>
    obtain⟨a',hgo,m₂,hk⟩:=aeX Dk;exact bookC hP ha AA hgo (Y8 w (smA Wg) _) (Dk.setSm 0) (Ga (Ba _ _) bk_sem) (.w4 (X:=X0) hk) (.fin trivial h2) (by simp) (.inl (by simp only[phi];omega))
   |fin h1 _=>exact h1.elim
  .obtain⟨a',w',es,hgo,⟨rfl,rfl⟩,GM⟩:=Bu w (Ah.refl w)
   exact idleC hP ha AA Dk AM (by simp) hgo (.w3 GM) (by omega)
 |blk h=>simp at By
 |w4 h=>
  rcases zT h with Bt|⟨m',rfl,Bu⟩
  .obtain⟨_,hx⟩:=Bt w (Ah.refl w)
   obtain⟨hq,rfl,rfl⟩:=AM.fin_inv trivial;obtain⟨a',hgo,m₂,hk⟩:=hx Dk;exact bookC hP ha AA hgo (.refl Wg w) Dk (Ga rfl bk_rd) (.ke (X:=X0) hk) (.fin trivial hq) (by simp) (.inl (by simp only[phi];omega))
  .obtain⟨a',w',es,hgo,⟨rfl,rfl⟩,GM⟩:=Bu w (Ah.refl w)
   exact idleC hP ha AA Dk AM (by simp) hgo (.w4 GM) (by omega)
 |ke h=>
  rcases zT h with Bt|⟨m',rfl,Bu⟩
  .obtain⟨_,a',hgo,m₂,hk⟩:=Bt w (Ah.refl w)
   obtain⟨hq,rfl,rfl⟩:=AM.fin_inv trivial;exact bookC hP ha AA hgo (.refl Wg w) Dk (Ga rfl bk_en) (.acq (X:=X0) hk) (.fin trivial hq) (by simp) (.inl (by simp only[phi];omega))
  .obtain⟨a',w',es,hgo,⟨rfl,rfl⟩,GM⟩:=Bu w (Ah.refl w)
   exact idleC hP ha AA Dk AM (by simp) hgo (.ke GM) (by omega)
 |acq h=>
  rcases zT h with Bt|⟨m',rfl,Bu⟩
  .obtain⟨_,a',hgo,m₂,hk⟩:=Bt w (Ah.refl w)
   obtain⟨hq,rfl,rfl⟩:=AM.fin_inv trivial;refine bookC hP ha AA hgo (.refl Wg w) Dk (Ip (p:=0) (K:=K) (by exact rM) (by simp) (.inl rfl)) (.ret (X:=X0) hk) (.fin trivial hq) (fun _=>?_) (.inl (by simp only[phi];omega));have e1:ZK 0 a.frame.fn a.frame.place #[mk (.acquire (stA Wg))]= #[{g:=0,fn:=a.frame.fn,pos:=a.frame.place,act:=.mark (.acquire (stA Wg))}]:=by rw[Zb7];simp[Zdq]
   have hy:(t++ #[({g:=0,fn:=a.frame.fn,pos:=a.frame.place,act:=.mark (.acquire (stA Wg))}:MemOp)])[t.size]?=some {g:=0,fn:=a.frame.fn,pos:=a.frame.place,act:=.mark (.acquire (stA Wg))}:=by simp
   have Fy:=AA.pos;refine⟨t.size,by rw[e1,act?_of hy],by rw[e1];simp[Zal],by rw[e1];exact⟨0,by simp[Zal],by rw[deaf_old (Zj _)];exact AA.deaf0⟩,fun i hi=>?_⟩;obtain⟨r,hr⟩:=AA.rel i hi (by rw[hq i hi];omega);refine⟨r,I_.other hr fun op hop=>?_,lt_of_act? hr.1.act⟩;obtain⟨e,_,rfl⟩:=ZQ hop;show 0≠K+i;omega
  .obtain⟨a',w',es,hgo,⟨rfl,rfl⟩,GM⟩:=Bu w (Ah.refl w)
   exact idleC hP ha AA Dk AM (by simp) hgo (.acq GM) (by omega)
 |ret h=>
  rcases zT h with Bt|⟨m',rfl,Bu⟩
  .exact absurd ⟨rfl,Bt⟩ hnf
  obtain⟨a',w',es,hgo,⟨rfl,rfl⟩,GM⟩:=Bu w (Ah.refl w);exact idleC hP ha AA Dk AM Jb hgo (.ret GM) (by omega)
end
end Go.Pair
namespace Go.Pair
open Go Go.Conc Go.FA
open Go.ConcN (PermW RelBy WgLive CTag phi pend isOpen isW3 isFin OpenSt AllQuit WD Vc Ssum Fsum cnt sumTo sumTo_upd upd upd_same upd_ne exists_counted)
open Go.ConcR (KK WgAt stA smA rd wr mk DC0 Bk g_of_ofEvents)
section
variable {P:Zo}{ty:Zs}{Wg Ch:Nat}{Pay:Nat->Gk}{K T₀:Nat}{Shun:Loc->Prop}{w₀:Zb}{S₀ L₀:Nat->Prop}{Anch AO:Cd}
 {j:Nat} {gs:Array Zi} {w:Zb} {t:YZ} {D:Nat->WD} {E:Nat->Nat} {X:Nat->Fuel P ty Wg} {H:JJ} {q:Nat->Nat} {d0:Nat} {vals:Nat->Zf} {tag:CTag} {sub f0:Nat} {X0:Fuel P ty Wg} {a:Zi} {sl:Option (Nat×Nat)} {st sm:Int}
variable {S L S' L':Nat->Prop}
variable {p b i k s' e' m' dd' d KP f' m n:Nat}
variable {g g' a':Zi}
def WSit.running_of {OP:Gk}{s e:Nat}{X:Fuel P ty Wg}(h:WSit P ty Wg Ch OP S L s e m d X g w)(hs:s≠1):g.status=.running:=
 h.status.resolve_right fun x=>hs x.2
def someone_runs (R9:∀S g w,AO S g w->g.status=.running)(hA:∀S g w,Anch S g w->g.status=.running)(ha:gs[0]?=some a)(hcs:CSit P ty Wg Ch Pay Anch AO (H.S 0) (H.L 0) tag sub j f0 X0 d0 a w)(AA:Com P ty Wg Ch Pay K T₀ Shun w₀ S₀ L₀ j gs w t D E X H q d0 vals)(AM:Ye j D tag st sm):
  ∃(i:Nat) (g:Zi),gs[i]?=some g/\g.status=.running:=by
 rcases hcs.status R9 hA with⟨hs,_⟩|⟨_,rfl⟩
 .exact⟨0,a,ha,hs⟩
 cases AM with
 |opn h1 _ _=>exact h1.elim
 |reg _ _ h3=>
  obtain⟨i,hi,h5⟩:=exists_counted h3;obtain⟨g,hg,hs⟩:=AA.wk i hi;exact⟨K+i,g,hg,hs.running_of (by omega)⟩
 |last L _ h2 h3 _=>
  obtain⟨g,hg,hs⟩:=AA.wk L h2;exact⟨K+L,g,hg,hs.running_of (by omega)⟩
 |fin h1 _=>exact h1.elim
def all_awake (R9:∀S g w,AO S g w->g.status=.running)(hA:∀S g w,Anch S g w->g.status=.running)(ha:gs[0]?=some a)(hcs:CSit P ty Wg Ch Pay Anch AO (H.S 0) (H.L 0) tag sub j f0 X0 d0 a w)(AA:Com P ty Wg Ch Pay K T₀ Shun w₀ S₀ L₀ j gs w t D E X H q d0 vals):∀g∈gs,awake g:=by
 intro g hg;obtain⟨i,hi⟩:=Array.mem_iff_getElem?.1 hg;have Az:=(Za.1 hi).1;have D':=AA.size;rcases zQ i with rfl|hp
 .rw[ha]at hi;cases hi
  intro tm;rcases hcs.status R9 hA with⟨hs,_⟩|⟨hs,_⟩<;>rw[hs]<;>simp
 rcases Zar i K with hK|hK
 .exact awake_of ((AA.old i g hp hK hi).status.elim .inl fun x=>.inr (.inr x))
 obtain⟨g',GM,hs⟩:=AA.wk (i - K) (by omega);rw[show K+(i - K)=i by omega,hi]at GM;cases GM;exact awake_of (hs.status.elim .inl fun x=>.inr (.inr x.1))
def jI (hP:I' ty Wg Pay)(R9:∀S g w,AO S g w->g.status=.running)(hA:∀S g w,Anch S g w->g.status=.running)
 (s9:∀S g w,AO S g w->∃m,Goes P true (Ah ty Wg S) DC0 (AtW1 P ty Wg Anch AO S) m g w) (μ:Mu P ty Wg) (m:Machine) (t:YZ) (h:Inv P ty Wg Ch Pay K T₀ Shun w₀ S₀ L₀ Anch AO μ m t):
  Fin P ty Wg Ch Pay K T₀ Shun w₀ S₀ L₀ Anch m t\/∃m' ops GV,stepT P m=(.next m',ops)/\Ja GV μ/\Inv P ty Wg Ch Pay K T₀ Shun w₀ S₀ L₀ Anch AO GV m' (t++ops):=by
 obtain⟨gs,w,sl,j,D,E,X,H,q,d0,vals,tag,sub,f0,X0,a,st,sm,rfl,ha,hcs,AA,Dk,AM,Jb,rfl⟩:=h;by_cases hf:tag=.ret/\∀w₁,Ah ty Wg (H.S 0) w w₁->Anch (H.S 0) a w₁
 .obtain⟨rfl,B_⟩:=hf
  obtain⟨hq,rfl,rfl⟩:=AM.fin_inv trivial;have hj:j=2/\d0=0:=by cases hcs;exact⟨rfl,rfl⟩
  obtain⟨rfl,rfl⟩:=hj;exact .inl ⟨gs,w,sl,D,E,X,H,q,vals,a,rfl,ha,B_ w (Ah.refl w),AA,Dk,hq,Jb rfl⟩
 refine .inr ?_;obtain⟨i,g,d,I7,hg,By,Bu⟩:=crowd_pick (P:=P) (w:=w) (sl:=sl) (all_awake R9 hA ha hcs AA) (someone_runs R9 hA ha hcs AA AM);rw[Bu];have KG:=hcs.rely (Ah.at w d);have B5:=AA.at hP d;have KS:WgAt ty Wg (w.at d) st sm:=Dk;have Fy:=AA.pos;rcases zQ i with rfl|hip
 .rw[ha]at hg;cases hg
  exact stepCaller (sl:=I7) hP s9 ha KG B5 KS AM Jb By fun⟨h1,h2⟩=>hf ⟨h1,fun w₁ hr=>h2 w₁ ⟨⟨hr.base.same,hr.base.size,hr.base.os⟩,hr.live⟩⟩
 rcases Zar i K with hK|hK
 ·
  have hq:=AA.old i g hip hK hg;have Az:i<gs.size:=(Za.1 hg).1;have hi0:(i==0)=false:=by simp;omega
  cases nM:q i with
  |zero=>rw[nM]at hq;rw[hq.1]at By;cases By
  |succ k=>
   rw[nM]at hq;rcases hq with⟨hfi,_⟩|⟨_,g',es,hm,nN,P_⟩
   .rw[hfi]at By;cases By
   have FB:=Zb1 (P:=P) (sl:=I7) (i:=i) hg (by rw[hi0];exact nN (w.at d));have hc:=B5.aeP (k:=i) (n':=k) hip hK (gs':=(gs.map (woken P g g' (w.at d))).setIfInBounds i g') (g':=g') (by simp) (Zbo _ _ _ Az) (fun k' h1 h2=>B5.Gl g g' (w.at d) i h1 h2) (fn:=g.frame.fn) (pos:=g.frame.place) hm P_;obtain⟨Cl,f',aa6,dA,_⟩:=KG.wokenBy R9 hA (Ah.refl _) g g';refine⟨_,_,_,FB,?_,_,w.at d,I7,j,D,E,X,H,upd q i k,d0,vals,Cl,sub,f',X0,_,st,sm,rfl,by rw[Zcb _ _ _ _ (by omega),ha];rfl,aa6,hc,KS,AM.retag dA,fun e=>?_,rfl⟩
   .unfold Ki
    rw[ConcN.phi_retag 2 _ dA];have:=sumTo_upd q k id hK;simp only[nM,id]at this;have e1:(sumTo K fun a=>upd q i k a)=sumTo K (upd q i k):=rfl;have e2:(sumTo K fun a=>q a)=sumTo K q:=rfl;rw[e1,e2]at this;exact mu4 (by omega)
   rcases dA with rfl|⟨_,rfl⟩
   .exact(Jb e).app fun i' r DN hr=>I_.other hr fun op hop=>by
     obtain⟨e,_,rfl⟩:=ZQ hop;show i≠K+i';omega
   cases e
 have Az:=(Za.1 hg).1;have D':=AA.size;have e:i=K+(i - K):=by omega
 rw[e]at hg⊢;exact stepWorker hP R9 hA ha KG B5 KS AM Jb (by omega) hg By
def jJ (hP:I' ty Wg Pay)(R9:∀S g w,AO S g w->g.status=.running)(hA:∀S g w,Anch S g w->g.status=.running)
 (s9:∀S g w,AO S g w->∃m,Goes P true (Ah ty Wg S) DC0 (AtW1 P ty Wg Anch AO S) m g w) (μ:Mu P ty Wg):∀(m:Machine) (t:YZ),Inv P ty Wg Ch Pay K T₀ Shun w₀ S₀ L₀ Anch AO μ m t->
  ∃N m' t',ZaE P N m t=(.next m',t')/\Fin P ty Wg Ch Pay K T₀ Shun w₀ S₀ L₀ Anch m' t':=by
 induction μ using(al9 P ty Wg).induction with
 |_ μ ih=>
  intro m t hI;rcases jI hP R9 hA s9 μ m t hI with h|⟨m',ops,GV,hs,hr,hI'⟩
  .exact⟨0,m,t,rfl,h⟩
  obtain⟨n,m₂,Ic,h1,h2⟩:=ih GV hr m' (t++ops) hI';exact⟨n+1,m₂,Ic,by rw[runNT_succ_next hs];exact h1,h2⟩
def av (AA:Com P ty Wg Ch Pay K T₀ Shun w₀ S₀ L₀ 2 gs w t D E X H q 0 vals)(Jb:AcqAll K Wg T₀ 2 t):Past (fun l=>Shun l\/Mw Wg l) w.heap.size t:=by
 obtain⟨qq,h1,h2,h3,h4⟩:=Jb;obtain⟨z,hz,hzg⟩:=zc.1 h2;have edge:∀i,i<2->∀k,t.g? k=some (K+i)->(∃r,I_ Wg T₀ t (K+i) r/\r<qq/\k<=r)->Zbw t k qq:=by
  intro i _ k hk ⟨r,hr,hrq,hkr⟩;have e:Zbw t r qq:=.single (.inr ⟨.marked hrq (.inr hr.1.act) h1 (fun k hk _=>AA.norel k (Nat.le_of_lt (Nat.lt_of_le_of_lt hr.2.1 hk))),hr.1.heard,h3⟩);rcases Zar k r with Az|hge
  .exact .trans (.single (.inl ⟨Az,K+i,hk,hr.1.g⟩)) e
  obtain rfl:k=r:=by omega
  exact e
 refine⟨AA.ti.nr,fun i x hx hm=>?_,fun i g hg BL hc=>?_,AA.deaf0,AA.ti.seen⟩
 .rcases AA.ti.kn i x hx hm with k|⟨k,k'⟩|⟨p,lO,VK,hg⟩
  .exact .inl k
  .exact .inr ⟨.inl k,k'⟩
  obtain⟨i',rfl⟩:∃i',p=i'+1:=⟨p - 1,by omega⟩;obtain⟨r,hr,hrq⟩:=h4 i' (by omega);rcases hr.2.2 i x hx hm hg with hk|⟨hk,Kh⟩
  .exact .inl ⟨qq,z,hz,hzg,.inr (edge i' (by omega) i hg ⟨r,hr,hrq,hk⟩)⟩
  exact .inr ⟨.inr hk,Kh⟩
 rcases AA.ti.ov i g hg BL hc with h|⟨p,lO,VK,rfl⟩
 .exact h
 obtain⟨i',rfl⟩:∃i',p=i'+1:=⟨p - 1,by omega⟩;obtain⟨r,hr,hrq⟩:=h4 i' (by omega);have hle:i<=r:=Zdl fun Az=>hr.1.after i Az hg hc;exact⟨qq,h2,edge i' (by omega) i hg ⟨r,hr,hrq,hle⟩⟩
def Sc (AA:Com P ty Wg Ch Pay K T₀ Shun w₀ S₀ L₀ 2 gs w t D E X H q 0 vals)(hq:AllQuit 2 D):∃q',Leavers P t gs q':=by
 refine⟨fun i=>if i<K then q i else(D (i - K)).fuel,fun i g hi hg=>?_,fun i hi=>AA.above i (by rw[<-AA.size];exact hi)⟩;have Az:=(Za.1 hg).1;have D':=AA.size;by_cases hK:i<K
 .rw[if_pos hK]
  exact AA.old i g hi hK hg
 rw[if_neg hK];obtain⟨g',GM,hs⟩:=AA.wk (i - K) (by omega);have hd:=AA.deafW (i - K) (by omega);rw[show K+(i - K)=i by omega]at GM hd;rw[hg]at GM;cases GM;rw[hd];have h1:=hq (i - K) (by omega);generalize (D (i - K)).fuel=f at*;generalize (D (i - K)).deaf=dd at*;generalize E (i - K)=e at*;generalize X (i - K)=x at*;rw[h1]at hs;cases hs with
 |quit h=>exact h
end
section
variable {P:Zo}{ty:Zs}{Wg Ch:Nat}{Pay:Nat->Gk}{Shun:Loc->Prop}{Anch AO:Cd}
structure Joined (P:Zo)(Ch Wg:Nat)(Pay:Nat->Gk)(Shun:Loc->Prop)(Anch:Cd)(S L:Nat->Prop)(w:Zb)(gs':Array Zi)(w':Zb)(t':YZ):Prop where
 main:∃a' S',gs'[0]?=some a'/\Anch S' a' w'/\∀b,S' b->(S b\/w.heap.size<=b)/\b<w'.heap.size/\b≠Wg/\b≠Ch
 old:∃q',Leavers P t' gs' q'
 past:Past (fun l=>Shun l\/Mw Wg l) w'.heap.size t'
 chan:∃(vals:Nat->Zf) (ord:List Nat) (tm:Bool),(ord=[0,1]\/ord=[1,0])/\w'.heap[Ch]?=some (.chan 2 (ord.map vals).toArray false 2 0 tm)/\
  ∀i,i<2->∃T,Pay i T (vals i) w'/\∀b,T b->(S b\/w.heap.size<=b)/\b<w'.heap.size/\b≠Wg/\b≠Ch
 still:∀b,b<w.heap.size->b≠Wg->b≠Ch->(¬S b\/L b)->w'.heap[b]?=w.heap[b]?
 size:w.heap.size<=w'.heap.size
 os:w'.os=w.os
 tape:w'.tape=w.tape
 output:w'.output=w.output
variable {gs' gs:Array Zi}
variable {w w' w₁ w₂ w₀:Zb}
variable {u t:YZ}
variable {S L T₀ S' L':Nat->Prop}
def dB (hP:I' ty Wg Pay)(R9:∀S g w,AO S g w->g.status=.running)(hA:∀S g w,Anch S g w->g.status=.running)
 (s9:∀S g w,AO S g w->∃m,Goes P true (Ah ty Wg S) DC0 (AtW1 P ty Wg Anch AO S) m g w)
 {a:Zi} {sl:Option (Nat×Nat)} {q:Nat->Nat} {tm:Bool} (h0:gs[0]?=some a) (hL:Leavers P t gs q) (wE:Past Shun w.heap.size t) (hH:G0 Shun S w.heap.size) (hSh:GZ Shun w.heap.size)
 (hWS:¬S Wg) (hCS:¬S Ch) (BL:Ch≠Wg) (Dk:WgAt ty Wg w 0 0) (lS:w.heap[Ch]?=some (.chan 2 #[] false 0 0 tm)) (alf:∀l,Mw Wg l->¬Shun l) (jD:∀b,L b->b<w.heap.size)
 (tc:Be P true ty Wg L (AtKdS P ty Wg Ch (Pay 0) (wj P ty Wg Ch Pay 2 AO 1)) S a w):
  ∃N gs' w' I7 t',ZaE P N (Yj gs w sl) t=(.next (Yj gs' w' I7),t')/\Joined P Ch Wg Pay Shun Anch S L w gs' w' t':=by
 have Az:0<gs.size:=(Za.1 h0).1;have hw:Wg<w.heap.size:=(Za.1 Dk).1;have hc:Ch<w.heap.size:=(Za.1 lS).1;have z:∀p:Nat,p<=0->p=0:=fun p h=>by omega
 let H:JJ:=⟨fun p=>if p=0 then S else fun _=>False,fun p=>if p=0 then L else fun _=>False⟩
 have hHS:H.S 0=S:=rfl;have hHL:H.L 0=L:=rfl;have AA:Com P ty Wg Ch Pay gs.size t.size Shun w S L 0 gs w t (fun _=>⟨0,0,0⟩) (fun _=>0) (fun _=>Fuel.none P ty Wg) H q 0 (fun _=>Ze):=by
  refine⟨rfl,Az,fun i hi=>by omega,fun i g h1 h2 h3=>hL.old i g h1 h3,TI.sY wE (fun b hb=>?_) alf,⟨fun p p' hp lR BL=>absurd ((z p hp).trans (z p' lR).symm) BL,fun p hp=>by rw[z p hp];exact hWS,fun p hp b hb=>?_⟩,fun k hk hx=>absurd (lt_of_act? hx) (by omega),Zj _,wE.hears,fun i hi=>by omega,hL.above,fun i hi=>by omega,hw,hc,BL,
   fun p hp=>by rw[z p hp];exact hCS,⟨[],tm,List.nodup_nil,fun i=>by simp,lS⟩,fun i hi=>by omega,fun b _ _ _ _=>rfl,Zj _,rfl,rfl,rfl,fun p hp b hb=>?_,fun p hp b hl hb _=>?_,jD,fun i hi=>by omega⟩
  .refine⟨(hH b hb).1,fun l hl hs=>?_⟩
   obtain⟨x,rfl,_⟩:=hSh l hs;simp only[blk,ZJ]at hl;exact(hH b hb).2 x hl hs
  .rw[z p hp]at hb
   exact(hH b hb).1
  .rw[z p hp]at hb
   exact .inl hb
  rw[z p hp];exact hl
 have AM:Ye 0 (fun _=>(⟨0,0,0⟩:WD)) (.sp 1 5) 0 0:=by
  have:=ConcN.Mode.opn (j:=0) (D:=fun _=>(⟨0,0,0⟩:WD)) (tag:=.sp 1 5) trivial (fun i hi=>by omega) (fun vs e=>by cases e);simpa[Vc,sumTo,pend]using this
 obtain⟨N,m',t',hr,gs',w',I7,D,E,X,H',q',vals,a',rfl,ha',B_,B5,_,hq,Jb⟩:=jJ (K:=gs.size) (T₀:=t.size) (Shun:=Shun) (w₀:=w) (S₀:=S) (L₀:=L) hP R9 hA s9 _ (Yj gs w sl) t
  ⟨gs,w,sl,0,_,_,_,H,q,0,_,.sp 1 5,1,0,tc.fuel,a,0,0,rfl,h0,.skd (r:=1) (by omega) tc (Ah.refl w),AA,Dk,AM,by simp,rfl⟩
 have wF:∀p,p<=2->∀b,H'.S p b->(S b\/w.heap.size<=b)/\b<w'.heap.size/\b≠Wg/\b≠Ch:=fun p hp b hb=>⟨B5.ER p hp b hb,B5.OQ.low p hp b hb,fun e=>B5.OQ.wg p hp (e▸hb),fun e=>B5.OT p hp (e▸hb)⟩;refine⟨N,gs',w',I7,t',hr,⟨a',H'.S 0,ha',B_,wF 0 (by omega)⟩,Sc B5 hq,av B5 Jb,?_,fun b h1 h2 h3 h4=>B5.dn b h1 h2 h3 h4,B5.grown,B5.os,B5.tape,B5.output⟩;have he:∀i,i<2->E i=0:=fun i hi=>B5.e01 i hi (by rw[hq i hi];omega);obtain⟨ord,tm',rJ,nF,wA⟩:=B5.ch;have oh:∀i,i∈ord↔i<2:=fun i=>(nF i).trans ⟨And.left,fun h=>⟨h,he i h⟩⟩;have jK:ord=[0,1]\/ord=[1,0]:=by
  match ord,rJ,oh with
  | [],_,hm=>exact absurd ((hm 0).2 (by omega)) (by simp)
  | [x],_,hm=>
   have h0:=(hm 0).2 (by omega);have h1:=(hm 1).2 (by omega);simp at h0 h1;omega
  | [x,y],hn,hm=>
   have h0:=(hm 0).2 (by omega);have h1:=(hm 1).2 (by omega);simp at h0 h1;rcases h0 with h0|h0
   .rcases h1 with h1|h1
    .omega
    exact .inl (by rw[<-h0, <-h1])
   .rcases h1 with h1|h1
    .exact .inr (by rw[<-h0, <-h1])
    .omega
  |x::y::zz::l,hn,hm=>
   exfalso;have hx:=(hm x).1 (by simp);have hy:=(hm y).1 (by simp);have hz:=(hm zz).1 (by simp);simp at hn;omega
 have hlen:ord.length=2:=by rcases jK with rfl|rfl<;>rfl
 rw[hlen]at wA;exact⟨vals,ord,tm',jK,wA,fun i hi=>⟨H'.S (i+1),B5.pay i hi (he i hi),wF (i+1) (by omega)⟩⟩
end
end Go.Pair
namespace Go.Pair
open Go Go.Conc Go.FA Go.RowKit Go.Conc.Lib Go.ConcR.Gen Go.ConcN.Gen
open Go.ConcN (WgLive)
open Go.ConcR (KK wgBlock WgAt stA smA rd wr mk DC0)
variable {ty:Zs}
variable {p b i j k s' e' m' dd' d KP f' m Wg n:Nat}
variable {S L T₀ S' L':Nat->Prop}
variable {w w' w₁ w₂ w₀:Zb}
def Ag (h:WgLive ty Wg w)(r:Ah ty Wg S w w₁):WgLive ty Wg w₁:=r.live h
def Sd {P:Zo}:∀ {n d:Nat} {g:Zi},ZcA P n d g->ZcA P (n+1) d g
 |0,_,_,h=>.inl h
 |_+1,_,_,h=>h.imp id fun⟨hs,g',es,hm,B_,hq⟩=>⟨hs,g',es,hm,B_,Sd hq⟩
variable {P:Zo}
variable {g g' a':Zi}
def Nw (h:ZcA P n d g)(hn:n<=m):ZcA P m d g:=by
 induction hn with
 |refl=>exact h
 |step _ ih=>exact Sd ih
section
variable {L:WgLink}
def te {P:Zo}(H:WgLib P L){Wg:Nat}{S:Nat->Prop}{b₀:ZM}{Qd:Act}{ES:Array Oper}{Qe:Nat}{EK:List Nat}{Qf:List Item}{cs:List ZM}{qt:Nat}
  (hT:ZcA P qt 0 (G (b₀.at (Qd.put ((ES[Qe]?).bind (·.dst)) (.tuple #[])) (.inRegion ES EK::Qf)) cs)) (w:Zb) (hK:WgLive L.tWg Wg w):
  Goes P false (Ah L.tWg Wg S) DC0 (AtR0 P L.tWg Wg S) 40 (G ((base L.add).at ⟨#[.pointer (some ⟨Wg,0,none⟩),.int .i64 (-1),Ze,Ze,Ze,Ze,Ze,Ze,Ze,Ze,Ze,Ze,Ze,Ze,Ze,Ze,Ze,Ze,Ze,Ze,Ze,Ze,Ze,Ze,Ze,Ze,Ze,Ze,Ze,Ze,Ze,Ze,Ze,Ze,Ze,Ze,Ze,Ze,Ze,Ze,Ze,Ze,Ze,Ze,Ze,Ze,Ze,Ze,Ze,Ze,Ze,Ze,Ze,Ze,Ze,Ze,Ze,Ze,Ze,Ze,Ze,Ze,Ze,Ze,Ze,Ze,Ze,Ze,Ze,Ze,Ze,Ze,Ze,Ze,Ze,Ze,Ze,Ze,Ze,Ze,Ze,Ze,Ze,Ze,Ze,Ze,Ze,Ze,Ze,Ze,Ze,Ze,Ze,Ze,Ze,Ze,Ze,Ze,Ze,Ze,Ze,Ze,Ze,Ze,Ze,Ze,Ze,Ze,Ze,Ze,Ze,Ze,Ze,Ze,Ze,Ze,Ze],[]⟩ [.code (body_add L)]) (b₀.at Qd (.inRegion ES (Qe::EK)::Qf)::cs)) w:=by
 lib_facts
 simp only[body_add,addFn,Zw]
 repeat (first|u_c Zn Ag hK|u_cond true Ag hK|u_c Zg Ag hK|u_reg Ag hK|u_op Ag hK)
 u_conv H.underlying_tWgP H.room_tWg (WgLive.cell0 hK).choose_spec Ag hK
 refine ZT (fun w₁ BO=>?_);replace hK:=Ag hK BO;clear BO;refine⟨rfl,_,ZbN .releaseMerge (by simp) rfl rfl (by k_ne) rfl H.f_relMerge (x_relMerge_n L) (x_relMerge_b L) (x_relMerge_x L) (x_relMerge_f L) (by simp[ZbM,stA]),10,?_⟩
 walk_nrm
 repeat (first|u_c Zn Ag hK|u_c Zg Ag hK|u_reg Ag hK)
 refine ZT (fun w₁ BO=>?_);replace hK:=Ag hK BO;clear BO;refine⟨rfl,_,Zb6 .disable (by simp) rfl rfl (by k_ne) rfl H.f_disable (x_disable_n L) (x_disable_b L) (x_disable_x L) (x_disable_f L),60,?_⟩
 walk_nrm
 repeat (first|u_c Zn Ag hK|u_c Zg Ag hK|u_c ZU Ag hK|u_cond false Ag hK|u_reg Ag hK|u_op Ag hK|u_defer Ag hK|u_bub Ag hK|u_call H.f_uAdd (nm_uAdd L) uAddFn Ag hK)
 refine ZT (fun w₁ BO=>?_);clear BO hK;refine⟨rfl,fun v wt hwt hv hw=>?_⟩;have e0:IntKind.u64.wrap (KK+18446744069414584320)=0:=by decide
 have e1:IntKind.u64.wrap (KK+1+18446744069414584320)=1:=by decide
 rcases zQ v with rfl|hvp<;>(obtain rfl|rfl:wt=0\/wt=1:=by omega)
 .replace hw:WgAt L.tWg Wg w₁ KK 0:=by simpa using hw
  have z:((0:Nat):Int)*KK+((0:Nat):Int)=0:=by simp
  rw[z];refine⟨_,(Zap rfl rfl (by k_ne) rfl H.f_addU64 (x_addU64_n L) (x_addU64_b L) (x_addU64_x L) .u64 (x_addU64_f L) rfl rfl hw.cellSt (hw.thaw 0)).trans (by rw[e0];rfl),fun hl=>absurd hl.2 (by decide),fun _=>⟨qt+120,?_⟩⟩;clear hw
  walk_nrm
  q_val (.int .u64 0)
  q_c Zg
  q_c z8
  q_leave1 H.f_uAdd
  q_val (.int .u64 0)
  q_c Zg
  (repeat q_c Zn)
  q_reg
  q_val (.int .u64 0)
  q_val (.int .u64 0)
  q_val (.bool false)
  q_val (.bool false)
  q_skip
  q_skip
  q_val (.bool false)
  q_c Zg
  q_cond false
  q_c ZU
  (repeat q_c Zn)
  q_reg
  q_val (.int .u64 0)
  q_val (.int .u64 0)
  q_val (.int .i32 0)
  q_val (.int .i32 0)
  q_c Zg
  (repeat q_c Zn)
  q_reg
  q_val (.int .u64 0)
  q_val (.int .u64 0)
  q_val (.int .u32 0)
  q_val (.int .u32 0)
  q_c Zg
  (repeat q_c Zn)
  q_reg
  q_val (.bool true)
  q_val (.int .i64 (-1))
  q_val (.bool false)
  q_val (.bool false)
  q_val (.bool false)
  q_skip
  q_skip
  q_skip
  q_skip
  q_val (.bool false)
  q_c Zg
  q_cond false
  q_c ZU
  (repeat q_c Zn)
  q_reg
  q_val (.int .i32 0)
  q_val (.bool false)
  q_c Zg
  q_cond false
  q_c ZU
  (repeat q_c Zn)
  q_reg
  q_val (.int .u32 0)
  q_val (.bool false)
  q_val (.bool false)
  q_skip
  q_skip
  q_val (.bool false)
  q_val (.bool false)
  q_skip
  q_skip
  q_skip
  q_skip
  q_val (.bool false)
  q_c Zg
  q_cond false
  q_c ZU
  (repeat q_c Zn)
  q_reg
  q_val (.int .i32 0)
  q_val (.bool false)
  q_val (.bool false)
  q_val (.int .u32 0)
  q_val (.bool true)
  q_val (.bool true)
  q_c Zg
  q_cond true
  q_c z8
  q_enable
  q_leave0 H.f_add
  exact Nw hT (by omega)
 .replace hw:WgAt L.tWg Wg w₁ (KK+1) 0:=by simpa using hw
  have z:((0:Nat):Int)*KK+((1:Nat):Int)=1:=by simp
  rw[z];refine⟨_,(Zap rfl rfl (by k_ne) rfl H.f_addU64 (x_addU64_n L) (x_addU64_b L) (x_addU64_x L) .u64 (x_addU64_f L) rfl rfl hw.cellSt (hw.thaw 0)).trans (by rw[e1];rfl),fun _=>⟨150,?_⟩,fun hl=>absurd ⟨rfl,rfl⟩ hl⟩;have hK:WgLive L.tWg Wg (w₁.setCell (stA Wg) (.int .u64 1)):=⟨_,_,hw.setSt _⟩;clear hw
  walk_nrm
  u_op Ag hK
  u_c Zg Ag hK
  u_c z8 Ag hK
  u_leave1 H.f_uAdd Ag hK
  u_op Ag hK
  u_c Zg Ag hK
  (repeat u_c Zn Ag hK)
  u_reg Ag hK
  iterate 4 (u_op Ag hK)
  u_skip Ag hK
  u_skip Ag hK
  u_op Ag hK
  u_c Zg Ag hK
  u_cond false Ag hK
  u_c ZU Ag hK
  (repeat u_c Zn Ag hK)
  u_reg Ag hK
  iterate 4 (u_op Ag hK)
  u_c Zg Ag hK
  (repeat u_c Zn Ag hK)
  u_reg Ag hK
  iterate 4 (u_op Ag hK)
  u_c Zg Ag hK
  (repeat u_c Zn Ag hK)
  u_reg Ag hK
  iterate 5 (u_op Ag hK)
  u_skip Ag hK
  u_skip Ag hK
  u_skip Ag hK
  u_skip Ag hK
  u_op Ag hK
  u_c Zg Ag hK
  u_cond false Ag hK
  u_c ZU Ag hK
  (repeat u_c Zn Ag hK)
  u_reg Ag hK
  u_op Ag hK
  u_op Ag hK
  u_c Zg Ag hK
  u_cond false Ag hK
  u_c ZU Ag hK
  (repeat u_c Zn Ag hK)
  u_reg Ag hK
  iterate 7 (u_op Ag hK)
  u_skip Ag hK
  u_skip Ag hK
  u_skip Ag hK
  u_skip Ag hK
  u_op Ag hK
  u_c Zg Ag hK
  u_cond false Ag hK
  u_c ZU Ag hK
  (repeat u_c Zn Ag hK)
  u_reg Ag hK
  iterate 6 (u_op Ag hK)
  u_c Zg Ag hK
  u_cond false Ag hK
  u_c ZU Ag hK
  (repeat (first|u_c Zn Ag hK|u_c Zg Ag hK|u_reg Ag hK|u_op Ag hK))
  u_call H.f_uLoad (nm_uLoad L) uLoadFn Ag hK
  (repeat (first|u_c Zn Ag hK|u_c Zg Ag hK|u_reg Ag hK|u_op Ag hK))
  refine ZT (fun w₂ Co=>?_);replace hK:=Ag hK Co;clear Co;refine⟨rfl,fun hw=>⟨_,Zbp (v:=1) rfl rfl (by k_ne) rfl H.f_loadU64 (x_loadU64_n L) (x_loadU64_b L) (x_loadU64_x L) .u64 (x_loadU64_f L) rfl hw.cellSt,60,?_⟩⟩;clear hw
  walk_nrm
  u_op Ag hK
  u_c Zg Ag hK
  u_c z8 Ag hK
  u_leave1 H.f_uLoad Ag hK
  u_op Ag hK
  u_op Ag hK
  u_c Zg Ag hK
  u_cond false Ag hK
  u_c ZU Ag hK
  (repeat (first|u_c Zn Ag hK|u_c Zg Ag hK|u_reg Ag hK|u_op Ag hK))
  u_call H.f_uStore (nm_uStore L) uStoreFn Ag hK
  u_reg Ag hK
  iterate 4 (u_op Ag hK)
  refine ZT (fun DZ Fv=>?_);clear Fv hK;refine⟨rfl,fun hw=>⟨_,stepG_store_atomic rfl rfl (by k_ne) rfl H.f_storeU64 (x_storeU64_n L) (x_storeU64_b L) (x_storeU64_x L) (x_storeU64_f L) rfl rfl hw.cellSt (hw.thaw 0),60,?_⟩⟩;have hK:WgLive L.tWg Wg (DZ.setCell (stA Wg) (.int .u64 0)):=⟨_,_,hw.setSt 0⟩;clear hw
  walk_nrm
  u_c Zg Ag hK
  u_c stepG_end Ag hK
  u_leave0 H.f_uStore Ag hK
  u_c Zg Ag hK
  (repeat u_c Zn Ag hK)
  u_reg Ag hK
  u_op Ag hK
  u_c Zg Ag hK
  u_cond false Ag hK
  u_c ZU Ag hK
  u_c Zbq Ag hK
  u_c stepG_loop Ag hK
  u_c Zn Ag hK
  u_c Zn Ag hK
  u_reg Ag hK
  u_op Ag hK
  u_op Ag hK
  u_c Zg Ag hK
  u_cond true Ag hK
  u_c ZU Ag hK
  u_c Zn Ag hK
  u_c Zbq Ag hK
  u_reg Ag hK
  iterate 3 (u_op Ag hK)
  refine ZT (fun KU cY=>?_);clear cY hK;refine⟨rfl,mayWake_entry rfl rfl H.f_semrelease (x_semrelease_b L),fun hw=>⟨_,(stepG_semrelease (n:=0) rfl rfl (by k_ne) rfl H.f_semrelease (x_semrelease_n L) (x_semrelease_b L) (x_semrelease_x L) (x_semrelease_f L) (by simp[ZbM,smA]) hw.cellSm (hw.thaw 1)).trans (by rfl),qt+60,?_⟩⟩;clear hw
  walk_nrm
  q_c Zg
  q_c stepG_inBlock
  q_reg
  q_val (.int .u32 1)
  q_val (.int .u32 0)
  q_val (.int .u32 0)
  q_c Zg
  q_c stepG_inLoop
  q_c Zn
  q_c Zn
  q_reg
  q_val (.int .u32 0)
  q_val (.bool false)
  q_c Zg
  q_cond false
  q_exit
  q_c stepG_end
  q_enable
  q_leave0 H.f_add
  exact Nw hT (by omega)
 .obtain⟨V,hV⟩:∃V:Int,V=(v:Int):=⟨_,rfl⟩
  obtain⟨S',hS⟩:∃S':Int,S'=V*KK+0:=⟨_,rfl⟩;have eS:IntKind.u64.wrap (((v:Int)+1)*KK+((0:Nat):Int)+18446744069414584320)=S':=by rw[Zbc,hS,hV];simp only[KK];omega
  have eT:(v:Int)*KK+((0:Nat):Int)=S':=by rw[hS,hV];simp
  rw[eT];have a1:S' / 4294967296=V:=by rw[hS,hV];simp only[KK];omega
  have b1:bits .and .u64 S' 2147483648=0:=by rw[hS,hV];have:=Za6 v 0 (by omega) (by omega);simpa[KK]using this
  have b2:bits .and .u64 S' 2147483647=0:=by rw[hS,hV];have:=ZaG v 0 (by omega) (by omega);simpa[KK]using this
  have c1:IntKind.i32.wrap V=V:=by rw[Za8];omega
  have hV1:0<V:=by omega
  have gF:V<2147483648:=by omega
  have q3:decide (V<0)=false:=decide_eq_false (by omega);have q4:decide (0<V)=true:=decide_eq_true (by omega);refine⟨_,(Zap rfl rfl (by k_ne) rfl H.f_addU64 (x_addU64_n L) (x_addU64_b L) (x_addU64_x L) .u64 (x_addU64_f L) rfl rfl hw.cellSt (hw.thaw 0)).trans (by rw[eS];rfl),fun hl=>absurd hl.1 (by omega),fun _=>⟨qt+120,?_⟩⟩;clear hw hS hV eS eT
  walk_nrm
  q_val (.int .u64 S')
  q_c Zg
  q_c z8
  q_leave1 H.f_uAdd
  q_val (.int .u64 S')
  q_c Zg
  (repeat q_c Zn)
  q_reg
  q_val (.int .u64 S')
  q_vn (.int .u64 0)
  q_val (.bool false)
  q_val (.bool false)
  q_skip
  q_skip
  q_val (.bool false)
  q_c Zg
  q_cond false
  q_c ZU
  (repeat q_c Zn)
  q_reg
  q_val (.int .u64 S')
  q_vn (.int .u64 V)
  q_vn (.int .i32 V)
  q_val (.int .i32 V)
  q_c Zg
  (repeat q_c Zn)
  q_reg
  q_val (.int .u64 S')
  q_vn (.int .u64 0)
  q_vn (.int .u32 0)
  q_val (.int .u32 0)
  q_c Zg
  (repeat q_c Zn)
  q_reg
  q_val (.bool true)
  q_val (.int .i64 (-1))
  q_val (.bool false)
  q_val (.bool false)
  q_val (.bool false)
  q_skip
  q_skip
  q_skip
  q_skip
  q_val (.bool false)
  q_c Zg
  q_cond false
  q_c ZU
  (repeat q_c Zn)
  q_reg
  q_val (.int .i32 V)
  q_vn (.bool false)
  q_c Zg
  q_cond false
  q_c ZU
  (repeat q_c Zn)
  q_reg
  q_val (.int .u32 0)
  q_vn (.bool false)
  q_val (.bool false)
  q_skip
  q_skip
  q_val (.bool false)
  q_val (.bool false)
  q_skip
  q_skip
  q_skip
  q_skip
  q_val (.bool false)
  q_c Zg
  q_cond false
  q_c ZU
  (repeat q_c Zn)
  q_reg
  q_val (.int .i32 V)
  q_vn (.bool true)
  q_val (.bool true)
  q_skip
  q_skip
  q_val (.bool true)
  q_c Zg
  q_cond true
  q_c z8
  q_enable
  q_leave0 H.f_add
  exact Nw hT (by omega)
 obtain⟨V,hV⟩:∃V:Int,V=(v:Int):=⟨_,rfl⟩;obtain⟨S',hS⟩:∃S':Int,S'=V*KK+1:=⟨_,rfl⟩;have eS:IntKind.u64.wrap (((v:Int)+1)*KK+((1:Nat):Int)+18446744069414584320)=S':=by rw[Zbc,hS,hV];simp only[KK];omega
 have eT:(v:Int)*KK+((1:Nat):Int)=S':=by rw[hS,hV];simp
 rw[eT];have a1:S' / 4294967296=V:=by rw[hS,hV];simp only[KK];omega
 have b1:bits .and .u64 S' 2147483648=0:=by rw[hS,hV];have:=Za6 v 1 (by omega) (by omega);simpa[KK]using this
 have b2:bits .and .u64 S' 2147483647=1:=by rw[hS,hV];have:=ZaG v 1 (by omega) (by omega);simpa[KK]using this
 have c1:IntKind.i32.wrap V=V:=by rw[Za8];omega
 have hV1:0<V:=by omega
 have gF:V<2147483648:=by omega
 have q3:decide (V<0)=false:=decide_eq_false (by omega);have q4:decide (0<V)=true:=decide_eq_true (by omega);refine⟨_,(Zap rfl rfl (by k_ne) rfl H.f_addU64 (x_addU64_n L) (x_addU64_b L) (x_addU64_x L) .u64 (x_addU64_f L) rfl rfl hw.cellSt (hw.thaw 0)).trans (by rw[eS];rfl),fun hl=>absurd hl.1 (by omega),fun _=>⟨qt+120,?_⟩⟩;clear hw hS hV eS eT
 walk_nrm
 q_val (.int .u64 S')
 q_c Zg
 q_c z8
 q_leave1 H.f_uAdd
 q_val (.int .u64 S')
 q_c Zg
 (repeat q_c Zn)
 q_reg
 q_val (.int .u64 S')
 q_vn (.int .u64 0)
 q_val (.bool false)
 q_val (.bool false)
 q_skip
 q_skip
 q_val (.bool false)
 q_c Zg
 q_cond false
 q_c ZU
 (repeat q_c Zn)
 q_reg
 q_val (.int .u64 S')
 q_vn (.int .u64 V)
 q_vn (.int .i32 V)
 q_val (.int .i32 V)
 q_c Zg
 (repeat q_c Zn)
 q_reg
 q_val (.int .u64 S')
 q_vn (.int .u64 1)
 q_vn (.int .u32 1)
 q_val (.int .u32 1)
 q_c Zg
 (repeat q_c Zn)
 q_reg
 q_val (.bool true)
 q_val (.int .i64 (-1))
 q_val (.bool false)
 q_val (.bool false)
 q_val (.bool false)
 q_skip
 q_skip
 q_skip
 q_skip
 q_val (.bool false)
 q_c Zg
 q_cond false
 q_c ZU
 (repeat q_c Zn)
 q_reg
 q_val (.int .i32 V)
 q_vn (.bool false)
 q_c Zg
 q_cond false
 q_c ZU
 (repeat q_c Zn)
 q_reg
 q_val (.int .u32 1)
 q_vn (.bool true)
 q_val (.bool true)
 q_val (.int .i64 (-1))
 q_val (.bool false)
 q_val (.bool false)
 q_val (.bool false)
 q_skip
 q_skip
 q_skip
 q_skip
 q_val (.bool false)
 q_c Zg
 q_cond false
 q_c ZU
 (repeat q_c Zn)
 q_reg
 q_val (.int .i32 V)
 q_vn (.bool true)
 q_val (.bool true)
 q_skip
 q_skip
 q_val (.bool true)
 q_c Zg
 q_cond true
 q_c z8
 q_enable
 q_leave0 H.f_add
 exact Nw hT (by omega)
def aeY {P:Zo}(H:WgLib P L){Wg:Nat}{S:Nat->Prop}{c:ZM}{cs:List ZM}{qt:Nat}(sS:c.mode=.returning)(hT:ZcA P qt 0 (G c cs))(w:Zb)(hK:WgLive L.tWg Wg w):
  Goes P false (Ah L.tWg Wg S) DC0 (AtR0 P L.tWg Wg S) 43 (G ((baseD L.done).at ⟨#[.pointer (some ⟨Wg,0,none⟩),Ze,Ze,Ze],[]⟩ [.code (body_done L)]) (c::cs)) w:=by
 lib_facts
 have hA:= @te L P H Wg S;simp only[body_done,body_add,doneFn,addFn,Zw]at hA⊢
 u_reg Ag hK
 u_op Ag hK
 u_in Ag hK
 refine goes_call rfl rfl (by k_ne) rfl H.f_add (nm_add L) rfl ⟨by u_nil,?_⟩
 walk_nrmf addFn
 refine hA (qt:=qt+3) ?_ _ hK
 q_c Zg
 q_c stepG_end
 exact QuitsD.leaveD rfl rfl H.f_done rfl sS hT
end
structure Gm (ty:Zs)(Wg:Nat)(S:Nat->Prop)(F:Zb->Prop):Prop where
 rely:∀w w',Ah ty Wg S w w'->F w->F w'
 set:∀w (a:Addr) v,a.block=Wg->F w->F (w.setCell a v)
def Ab {ty:Zs}{Wg:Nat}{S:Nat->Prop}{F:Zb->Prop}(Au:Gm ty Wg S F){w w₁:Zb}(h:F w/\WgLive ty Wg w)(r:Ah ty Wg S w w₁):F w₁/\WgLive ty Wg w₁:=⟨Au.rely _ _ r h.1,r.live h.2⟩
section
variable {L:WgLink}
def tf {P:Zo}(H:WgLib P L){Wg Ch:Nat}{S:Nat->Prop}{F:Zb->Prop}(Au:Gm L.tWg Wg S F){Pay:Gk}{Next:Cd}{b₀:ZM}{Qd:Act}{ES:Array Oper}{Qe:Nat}{EK:List Nat}{Qf:List Item}{cs:List ZM}{mT:Nat}
  (hT:∀w,F w->WgLive L.tWg Wg w->Goes P true (Ah L.tWg Wg S) DC0 (AtGoS P L.tWg Wg Ch Pay Next S) mT (G (b₀.at (Qd.put ((ES[Qe]?).bind (·.dst)) (.tuple #[])) (.inRegion ES EK::Qf)) cs) w)
  (w:Zb) (hF:F w/\WgLive L.tWg Wg w):
  Goes P true (Ah L.tWg Wg S) DC0 (AtKdS P L.tWg Wg Ch Pay Next S) 40 (G ((base L.add).at ⟨#[.pointer (some ⟨Wg,0,none⟩),.int .i64 1,Ze,Ze,Ze,Ze,Ze,Ze,Ze,Ze,Ze,Ze,Ze,Ze,Ze,Ze,Ze,Ze,Ze,Ze,Ze,Ze,Ze,Ze,Ze,Ze,Ze,Ze,Ze,Ze,Ze,Ze,Ze,Ze,Ze,Ze,Ze,Ze,Ze,Ze,Ze,Ze,Ze,Ze,Ze,Ze,Ze,Ze,Ze,Ze,Ze,Ze,Ze,Ze,Ze,Ze,Ze,Ze,Ze,Ze,Ze,Ze,Ze,Ze,Ze,Ze,Ze,Ze,Ze,Ze,Ze,Ze,Ze,Ze,Ze,Ze,Ze,Ze,Ze,Ze,Ze,Ze,Ze,Ze,Ze,Ze,Ze,Ze,Ze,Ze,Ze,Ze,Ze,Ze,Ze,Ze,Ze,Ze,Ze,Ze,Ze,Ze,Ze,Ze,Ze,Ze,Ze,Ze,Ze,Ze,Ze,Ze,Ze,Ze,Ze,Ze,Ze],[]⟩ [.code (body_add L)]) (b₀.at Qd (.inRegion ES (Qe::EK)::Qf)::cs)) w:=by
 lib_facts
 simp only[body_add,addFn,Zw]
 u_c Zn (Ab Au) hF
 u_cond true (Ab Au) hF
 u_c Zn (Ab Au) hF
 u_c Zn (Ab Au) hF
 u_reg (Ab Au) hF
 u_op (Ab Au) hF
 u_op (Ab Au) hF
 u_c Zg (Ab Au) hF
 u_cond false (Ab Au) hF
 u_c ZU (Ab Au) hF
 u_c Zn (Ab Au) hF
 u_reg (Ab Au) hF
 refine ZT (fun w₁ BO=>?_);replace hF:=Ab Au hF BO;clear BO;refine⟨rfl,_,Zb6 .disable (by simp) rfl rfl (by k_ne) rfl H.f_disable (x_disable_n L) (x_disable_b L) (x_disable_x L) (x_disable_f L),60,?_⟩
 walk_nrm
 repeat (first|u_c Zn (Ab Au) hF|u_c Zg (Ab Au) hF|u_c ZU (Ab Au) hF|u_cond false (Ab Au) hF|u_reg (Ab Au) hF|u_op (Ab Au) hF|u_defer (Ab Au) hF|u_bub (Ab Au) hF|u_call H.f_uAdd (nm_uAdd L) uAddFn (Ab Au) hF)
 refine ZT (fun w₂ Co=>?_);replace hF:=Ab Au hF Co;clear Co;refine⟨rfl,fun v hv hw=>?_⟩;rcases zQ v with rfl|hvp
 .replace hw:WgAt L.tWg Wg w₂ 0 0:=by simpa using hw
  have z:(((0:Nat):Int)+1)*KK=KK:=by simp
  rw[z];have e0:IntKind.u64.wrap (0+4294967296)=KK:=by decide
  refine⟨_,(Zap rfl rfl (by k_ne) rfl H.f_addU64 (x_addU64_n L) (x_addU64_b L) (x_addU64_x L) .u64 (x_addU64_f L) rfl rfl hw.cellSt (hw.thaw 0)).trans (by rw[e0];rfl),fun _=>⟨150,?_⟩,fun h=>absurd rfl h⟩;replace hF:F (w₂.setCell (stA Wg) (.int .u64 KK))/\WgLive L.tWg Wg (w₂.setCell (stA Wg) (.int .u64 KK)):=⟨Au.set _ _ _ rfl hF.1,⟨_,_,hw.setSt _⟩⟩;clear hw;simp only[KK]at hF⊢
  walk_nrm
  u_op (Ab Au) hF
  u_c Zg (Ab Au) hF
  u_c z8 (Ab Au) hF
  u_leave1 H.f_uAdd (Ab Au) hF
  u_op (Ab Au) hF
  u_c Zg (Ab Au) hF
  (repeat u_c Zn (Ab Au) hF)
  u_reg (Ab Au) hF
  iterate 4 (u_op (Ab Au) hF)
  u_skip (Ab Au) hF
  u_skip (Ab Au) hF
  u_op (Ab Au) hF
  u_c Zg (Ab Au) hF
  u_cond false (Ab Au) hF
  u_c ZU (Ab Au) hF
  (repeat u_c Zn (Ab Au) hF)
  u_reg (Ab Au) hF
  iterate 4 (u_op (Ab Au) hF)
  u_c Zg (Ab Au) hF
  (repeat u_c Zn (Ab Au) hF)
  u_reg (Ab Au) hF
  iterate 4 (u_op (Ab Au) hF)
  u_c Zg (Ab Au) hF
  (repeat u_c Zn (Ab Au) hF)
  u_reg (Ab Au) hF
  iterate 10 (u_op (Ab Au) hF)
  u_c Zg (Ab Au) hF
  u_cond true (Ab Au) hF
  (repeat u_c Zn (Ab Au) hF)
  u_reg (Ab Au) hF
  iterate 3 (u_op (Ab Au) hF)
  u_conv H.underlying_tPU32 H.room_tU32 (WgLive.cell1 hF.2).choose_spec (Ab Au) hF
  refine ZT (fun CG wG=>?_);replace hF:=Ab Au hF wG;clear wG;refine⟨rfl,_,ZbN .read (by simp) rfl rfl (by k_ne) rfl H.f_raceRead (x_raceRead_n L) (x_raceRead_b L) (x_raceRead_x L) (x_raceRead_f L) (by simp[ZbM,smA]),80,?_⟩
  walk_nrm
  u_c Zg (Ab Au) hF
  (repeat u_c Zn (Ab Au) hF)
  (repeat u_c Zn (Ab Au) hF)
  u_reg (Ab Au) hF
  u_op (Ab Au) hF
  u_op (Ab Au) hF
  u_c Zg (Ab Au) hF
  u_cond false (Ab Au) hF
  u_c ZU (Ab Au) hF
  (repeat u_c Zn (Ab Au) hF)
  u_reg (Ab Au) hF
  iterate 3 (u_op (Ab Au) hF)
  u_skip (Ab Au) hF
  u_skip (Ab Au) hF
  u_op (Ab Au) hF
  u_op (Ab Au) hF
  u_skip (Ab Au) hF
  u_skip (Ab Au) hF
  u_skip (Ab Au) hF
  u_skip (Ab Au) hF
  u_op (Ab Au) hF
  u_c Zg (Ab Au) hF
  u_cond false (Ab Au) hF
  u_c ZU (Ab Au) hF
  (repeat u_c Zn (Ab Au) hF)
  u_reg (Ab Au) hF
  iterate 3 (u_op (Ab Au) hF)
  u_skip (Ab Au) hF
  u_skip (Ab Au) hF
  u_op (Ab Au) hF
  u_c Zg (Ab Au) hF
  u_cond true (Ab Au) hF
  u_c z8 (Ab Au) hF
  refine ZT (fun DZ Fv=>?_);replace hF:=Ab Au hF Fv;clear Fv;refine⟨rfl,_,stepG_unwind_entry (v:=.tuple #[]) (evs:= #[mk .enable]) rfl H.f_enable (x_enable_n L) (x_enable_b L) (x_enable_x L) (x_enable_f L) (by simp[Zdn]) (by simp[mk]) (by simp[mk]),mT+1,?_⟩
  u_leave0 H.f_add (Ab Au) hF
  exact hT _ hF.1 hF.2
 obtain⟨V,hV⟩:∃V:Int,V=(v:Int)+1:=⟨_,rfl⟩;obtain⟨S',hS⟩:∃S':Int,S'=V*KK:=⟨_,rfl⟩;have eS:IntKind.u64.wrap ((v:Int)*KK+4294967296)=S':=by rw[Zbc,hS,hV];simp only[KK];omega
 rw[<-hV, <-hS];have a1:S' / 4294967296=V:=by rw[hS];simp only[KK];omega
 have b1:bits .and .u64 S' 2147483648=0:=by rw[hS,hV];have:=Za6 (v+1) 0 (by omega) (by omega);simpa[KK]using this
 have b2:bits .and .u64 S' 2147483647=0:=by rw[hS,hV];have:=ZaG (v+1) 0 (by omega) (by omega);simpa[KK]using this
 have c1:IntKind.i32.wrap V=V:=by rw[Za8];omega
 have hV1:1<V:=by omega
 have gF:V<2147483648:=by omega
 have q1:(V==1)=false:=by simp;omega
 have q2:decide (V=1)=false:=decide_eq_false (by omega);have q3:decide (V<0)=false:=decide_eq_false (by omega);have q4:decide (0<V)=true:=decide_eq_true (by omega);have q5:(V==0)=false:=by simp;omega
 have q6:decide (V=0)=false:=decide_eq_false (by omega);refine⟨_,(Zap rfl rfl (by k_ne) rfl H.f_addU64 (x_addU64_n L) (x_addU64_b L) (x_addU64_x L) .u64 (x_addU64_f L) rfl rfl hw.cellSt (hw.thaw 0)).trans (by rw[eS];rfl),fun h=>absurd h (by omega),fun _=>⟨150,?_⟩⟩;replace hF:F (w₂.setCell (stA Wg) (.int .u64 S'))/\WgLive L.tWg Wg (w₂.setCell (stA Wg) (.int .u64 S')):=⟨Au.set _ _ _ rfl hF.1,⟨_,_,hw.setSt _⟩⟩;clear hw hS hV eS
 walk_nrm
 u_op (Ab Au) hF
 u_c Zg (Ab Au) hF
 u_c z8 (Ab Au) hF
 u_leave1 H.f_uAdd (Ab Au) hF
 u_op (Ab Au) hF
 u_c Zg (Ab Au) hF
 (repeat u_c Zn (Ab Au) hF)
 u_reg (Ab Au) hF
 iterate 4 (u_op (Ab Au) hF)
 u_skip (Ab Au) hF
 u_skip (Ab Au) hF
 u_op (Ab Au) hF
 u_c Zg (Ab Au) hF
 u_cnd false (Ab Au) hF
 u_c ZU (Ab Au) hF
 (repeat u_c Zn (Ab Au) hF)
 u_reg (Ab Au) hF
 iterate 4 (u_op (Ab Au) hF)
 u_c Zg (Ab Au) hF
 (repeat u_c Zn (Ab Au) hF)
 u_reg (Ab Au) hF
 iterate 4 (u_op (Ab Au) hF)
 u_c Zg (Ab Au) hF
 (repeat u_c Zn (Ab Au) hF)
 u_reg (Ab Au) hF
 iterate 10 (u_op (Ab Au) hF)
 u_c Zg (Ab Au) hF
 u_cnd false (Ab Au) hF
 u_c ZU (Ab Au) hF
 (repeat u_c Zn (Ab Au) hF)
 u_reg (Ab Au) hF
 u_op (Ab Au) hF
 u_op (Ab Au) hF
 u_c Zg (Ab Au) hF
 u_cnd false (Ab Au) hF
 u_c ZU (Ab Au) hF
 (repeat u_c Zn (Ab Au) hF)
 u_reg (Ab Au) hF
 iterate 3 (u_op (Ab Au) hF)
 u_skip (Ab Au) hF
 u_skip (Ab Au) hF
 u_op (Ab Au) hF
 u_op (Ab Au) hF
 u_skip (Ab Au) hF
 u_skip (Ab Au) hF
 u_skip (Ab Au) hF
 u_skip (Ab Au) hF
 u_op (Ab Au) hF
 u_c Zg (Ab Au) hF
 u_cnd false (Ab Au) hF
 u_c ZU (Ab Au) hF
 (repeat u_c Zn (Ab Au) hF)
 u_reg (Ab Au) hF
 iterate 3 (u_op (Ab Au) hF)
 u_skip (Ab Au) hF
 u_skip (Ab Au) hF
 u_op (Ab Au) hF
 u_c Zg (Ab Au) hF
 u_cnd true (Ab Au) hF
 u_c z8 (Ab Au) hF
 refine ZT (fun DZ Fv=>?_);replace hF:=Ab Au hF Fv;clear Fv;refine⟨rfl,_,stepG_unwind_entry (v:=.tuple #[]) (evs:= #[mk .enable]) rfl H.f_enable (x_enable_n L) (x_enable_b L) (x_enable_x L) (x_enable_f L) (by simp[Zdn]) (by simp[mk]) (by simp[mk]),mT+1,?_⟩
 u_leave0 H.f_add (Ab Au) hF
 exact hT _ hF.1 hF.2
end
def QB {main:Bool}{R:Zb->Zb->Prop}{D:Zb->Zb->Array Z9->Prop}{Stop:Zi->Zb->Prop}(h:Goes P main R D Stop n g w)(hn:n<=m):Goes P main R D Stop m g w:=by
 induction hn with
 |refl=>exact h
 |step _ ih=>exact ih.more
def VW (L:WgLink)(F:(Nat->Prop)->Zb->Prop)(Wg:Nat)(c:ZM)(cs:List ZM):Cd:=fun S g w=>
 Gm L.tWg Wg S (F S)/\∃T:Array Zf,g=G ((base L.wait).at ⟨T,[]⟩ [.code (L7 L),.inLoop (L7 L),.inBlock 0]) (c::cs)/\T.size=84/\T[0]?=some (.pointer (some ⟨Wg,0,none⟩))/\F S w/\WgLive L.tWg Wg w
section
variable {L:WgLink}
def dC (H:WgLib P L){F:(Nat->Prop)->Zb->Prop}{Anch:Cd}{b₀:ZM}{Qd:Act}{ES:Array Oper}{Qe:Nat}{EK:List Nat}{Qf:List Item}{cs:List ZM}{mT:Nat}(hT:∀S,Gm L.tWg Wg S (F S)->∀w,F S w->WgLive L.tWg Wg w->Goes P true (Ah L.tWg Wg S) DC0 (Anch S) mT (G (b₀.at (Qd.put ((ES[Qe]?).bind (·.dst)) (.tuple #[])) (.inRegion ES EK::Qf)) cs) w)
 (S:Nat->Prop) (g:Zi) (w:Zb) (h:VW L F Wg (b₀.at Qd (.inRegion ES (Qe::EK)::Qf)) cs S g w):
  ∃m,Goes P true (Ah L.tWg Wg S) DC0 (AtW1 P L.tWg Wg Anch (VW L F Wg (b₀.at Qd (.inRegion ES (Qe::EK)::Qf)) cs) S) m g w:=by
 lib_facts
 obtain⟨Au,T,rfl,alg,t0,hF⟩:=h;obtain⟨v0,v1,v2,v3,v4,v5,v6,v7,v8,v9,v10,v11,QC,QD,QE,QF,QG,QH,QI,QK,v20,QL,QM,QN,QO,QP,QQ,QR,QS,QT,v30,QU,QV,QW,QX,QY,QZ,VX,VY,VZ,V9,Q0,v42,v43,v44,v45,v46,v47,v48,v49,v50,v51,v52,v53,v54,v55,v56,v57,v58,v59,v60,v61,v62,v63,v64,v65,v66,v67,v68,v69,v70,v71,v72,v73,v74,v75,v76,v77,v78,v79,v80,v81,v82,v83,rfl⟩:=array84 T alg;simp only[ZG,ZC,ZJ]at t0;subst t0;refine⟨40,?_⟩;simp only[L7,body_wait,waitFn,Zw]
 u_c Zbq (Ab Au) hF
 (repeat u_c Zn (Ab Au) hF)
 u_reg (Ab Au) hF
 iterate 3 (u_op (Ab Au) hF)
 u_call H.f_uLoad (nm_uLoad L) uLoadFn (Ab Au) hF
 (repeat u_c Zn (Ab Au) hF)
 u_reg (Ab Au) hF
 u_op (Ab Au) hF
 u_c Zg (Ab Au) hF
 (repeat u_c Zn (Ab Au) hF)
 u_reg (Ab Au) hF
 iterate 3 (u_op (Ab Au) hF)
 refine ZT (fun w₁ Nx=>?_);replace hF:=Ab Au hF Nx;clear Nx;refine⟨rfl,fun v hv hw=>?_⟩;rcases zQ v with rfl|hvp
 .replace hw:WgAt L.tWg Wg w₁ 0 0:=by simpa using hw
  refine⟨_,Zbp (v:=0) rfl rfl (by k_ne) rfl H.f_loadU64 (x_loadU64_n L) (x_loadU64_b L) (x_loadU64_x L) .u64 (x_loadU64_f L) rfl hw.cellSt,fun _=>⟨80,?_⟩,fun h=>absurd rfl h⟩;clear hw
  walk_nrm
  u_op (Ab Au) hF
  u_c Zg (Ab Au) hF
  u_c z8 (Ab Au) hF
  u_leave1 H.f_uLoad (Ab Au) hF
  u_op (Ab Au) hF
  u_c Zg (Ab Au) hF
  (repeat u_c Zn (Ab Au) hF)
  u_reg (Ab Au) hF
  iterate 4 (u_op (Ab Au) hF)
  u_c Zg (Ab Au) hF
  (repeat u_c Zn (Ab Au) hF)
  u_reg (Ab Au) hF
  iterate 4 (u_op (Ab Au) hF)
  u_c Zg (Ab Au) hF
  (repeat u_c Zn (Ab Au) hF)
  u_reg (Ab Au) hF
  u_op (Ab Au) hF
  u_op (Ab Au) hF
  u_c Zg (Ab Au) hF
  u_cond true (Ab Au) hF
  (repeat u_c Zn (Ab Au) hF)
  u_cond true (Ab Au) hF
  (repeat u_c Zn (Ab Au) hF)
  u_reg (Ab Au) hF
  refine ZT (fun tg aw=>?_);replace hF:=Ab Au hF aw;clear aw;refine⟨rfl,_,Zb6 .enable (by simp) rfl rfl (by k_ne) rfl H.f_enable (x_enable_n L) (x_enable_b L) (x_enable_x L) (x_enable_f L),30,?_⟩
  walk_nrm
  u_c Zg (Ab Au) hF
  u_reg (Ab Au) hF
  u_op (Ab Au) hF
  u_conv H.underlying_tWgP H.room_tWg (WgLive.cell0 hF.2).choose_spec (Ab Au) hF
  refine ZT (fun th ax=>?_);replace hF:=Ab Au hF ax;clear ax;refine⟨rfl,_,ZbN .acquire (by simp) rfl rfl (by k_ne) rfl H.f_acquire (x_acquire_n L) (x_acquire_b L) (x_acquire_x L) (x_acquire_f L) (by simp[ZbM,stA]),mT+40,?_⟩
  walk_nrm
  u_c Zg (Ab Au) hF
  (repeat u_c Zn (Ab Au) hF)
  u_reg (Ab Au) hF
  iterate 8 (u_op (Ab Au) hF)
  u_skip (Ab Au) hF
  u_skip (Ab Au) hF
  u_op (Ab Au) hF
  u_c Zg (Ab Au) hF
  u_cond false (Ab Au) hF
  u_c ZU (Ab Au) hF
  u_c z8 (Ab Au) hF
  u_leave0 H.f_wait (Ab Au) hF
  exact QB (hT S Au _ hF.1 hF.2) (by omega)
 obtain⟨S',hS⟩:∃S':Int,(v:Int)*KK=S':=⟨_,rfl⟩;have a1:S' / 4294967296=(v:Int):=by rw[<-hS];simp only[KK];omega
 have b1:bits .and .u64 S' 2147483648=0:=by rw[<-hS];have:=Za6 v 0 (by omega) (by omega);simpa[KK]using this
 have b2:bits .and .u64 S' 2147483647=0:=by rw[<-hS];have:=ZaG v 0 (by omega) (by omega);simpa[KK]using this
 have c1:IntKind.i32.wrap (v:Int)=(v:Int):=by rw[Za8];omega
 have w1:IntKind.u64.wrap (S'+1)=S'+1:=by rw[Zbc, <-hS];simp only[KK];omega
 have q3:decide ((v:Int)<0)=false:=decide_eq_false (by omega);have q4:decide (0<(v:Int))=true:=decide_eq_true (by omega);have q5:((v:Int)==0)=false:=by simp;omega
 have q6:decide ((v:Int)=0)=false:=decide_eq_false (by omega);rw[hS]at hw;refine⟨_,Zbp (v:=S') rfl rfl (by k_ne) rfl H.f_loadU64 (x_loadU64_n L) (x_loadU64_b L) (x_loadU64_x L) .u64 (x_loadU64_f L) rfl hw.cellSt,fun h0=>absurd h0 (by omega),fun _=>⟨90,?_⟩⟩;clear hw
 walk_nrm
 u_op (Ab Au) hF
 u_c Zg (Ab Au) hF
 u_c z8 (Ab Au) hF
 u_leave1 H.f_uLoad (Ab Au) hF
 u_op (Ab Au) hF
 u_c Zg (Ab Au) hF
 (repeat u_c Zn (Ab Au) hF)
 u_reg (Ab Au) hF
 iterate 4 (u_op (Ab Au) hF)
 u_c Zg (Ab Au) hF
 (repeat u_c Zn (Ab Au) hF)
 u_reg (Ab Au) hF
 iterate 4 (u_op (Ab Au) hF)
 u_c Zg (Ab Au) hF
 (repeat u_c Zn (Ab Au) hF)
 u_reg (Ab Au) hF
 u_op (Ab Au) hF
 u_op (Ab Au) hF
 u_c Zg (Ab Au) hF
 u_cnd false (Ab Au) hF
 u_c ZU (Ab Au) hF
 (repeat u_c Zn (Ab Au) hF)
 u_reg (Ab Au) hF
 iterate 6 (u_op (Ab Au) hF)
 u_call H.f_uCas (nm_uCas L) uCasFn (Ab Au) hF
 (repeat u_c Zn (Ab Au) hF)
 u_reg (Ab Au) hF
 u_op (Ab Au) hF
 u_c Zg (Ab Au) hF
 (repeat u_c Zn (Ab Au) hF)
 u_reg (Ab Au) hF
 iterate 5 (u_op (Ab Au) hF)
 refine ZT (fun w₂ ay=>?_);replace hF:=Ab Au hF ay;clear ay;refine⟨rfl,fun v' iZ hw=>⟨fun e=>?_,fun e=>?_⟩⟩
 .subst e
  rw[hS]at hw⊢;refine⟨_,(stepG_cas_hit (v:=S') (n:=S'+1) rfl rfl (by k_ne) rfl H.f_casU64 (x_casU64_n L) (x_casU64_b L) (x_casU64_x L) .u64 (x_casU64_f L) rfl rfl rfl hw.cellSt (hw.thaw 0)).trans (by rfl),60,?_⟩;replace hF:F S (w₂.setCell (stA Wg) (.int .u64 (S'+1)))/\WgLive L.tWg Wg (w₂.setCell (stA Wg) (.int .u64 (S'+1))):=⟨Au.set _ _ _ rfl hF.1,⟨_,_,hw.setSt _⟩⟩;clear hw
  walk_nrm
  u_op (Ab Au) hF
  u_c Zg (Ab Au) hF
  u_c z8 (Ab Au) hF
  u_leave1 H.f_uCas (Ab Au) hF
  u_c Zg (Ab Au) hF
  u_cond true (Ab Au) hF
  (repeat u_c Zn (Ab Au) hF)
  u_reg (Ab Au) hF
  iterate 4 (u_op (Ab Au) hF)
  u_c Zg (Ab Au) hF
  u_cond true (Ab Au) hF
  u_reg (Ab Au) hF
  iterate 3 (u_op (Ab Au) hF)
  u_conv H.underlying_tPU32 H.room_tU32 (WgLive.cell1 hF.2).choose_spec (Ab Au) hF
  refine ZT (fun CG om=>?_);replace hF:=Ab Au hF om;clear om;refine⟨rfl,_,ZbN .write (by simp) rfl rfl (by k_ne) rfl H.f_raceWrite (x_raceWrite_n L) (x_raceWrite_b L) (x_raceWrite_x L) (x_raceWrite_f L) (by simp[ZbM,smA]),60,?_⟩
  walk_nrm
  u_c Zg (Ab Au) hF
  (repeat u_c Zn (Ab Au) hF)
  u_reg (Ab Au) hF
  u_op (Ab Au) hF
  u_c Zg (Ab Au) hF
  (repeat u_c Zn (Ab Au) hF)
  u_reg (Ab Au) hF
  iterate 4 (u_op (Ab Au) hF)
  u_skip (Ab Au) hF
  u_op (Ab Au) hF
  u_c Zg (Ab Au) hF
  u_cond false (Ab Au) hF
  u_c ZU (Ab Au) hF
  (repeat u_c Zn (Ab Au) hF)
  u_reg (Ab Au) hF
  iterate 4 (u_op (Ab Au) hF)
  refine ZT (fun DZ az=>?_);replace hF:=Ab Au hF az;clear az;refine⟨rfl,rfl,fun⟨st,hw⟩=>stepG_semacquire_wait rfl rfl rfl H.f_semacquire (x_semacquire_n L) (x_semacquire_b L) (x_semacquire_x L) (x_semacquire_f L) (by simp[ZbM,smA]) hw.cellSm,fun hf=>?_⟩;refine⟨_,(stepG_semacquire (n:=1) rfl rfl (by k_ne) rfl H.f_semacquire (x_semacquire_n L) (x_semacquire_b L) (x_semacquire_x L) (x_semacquire_f L) (by simp[ZbM,smA]) hf.cellSm (by k_ne) (hf.thaw 1)).trans (by rfl),50,?_⟩;replace hF:F S (DZ.setCell (smA Wg) (.int .u32 0))/\WgLive L.tWg Wg (DZ.setCell (smA Wg) (.int .u32 0)):=⟨Au.set _ _ _ rfl hF.1,⟨_,_,hf.setSm 0⟩⟩;clear hf
  walk_nrm
  u_c Zg (Ab Au) hF
  (repeat u_c Zn (Ab Au) hF)
  u_reg (Ab Au) hF
  iterate 3 (u_op (Ab Au) hF)
  u_call H.f_uLoad (nm_uLoad L) uLoadFn (Ab Au) hF
  (repeat u_c Zn (Ab Au) hF)
  u_reg (Ab Au) hF
  u_op (Ab Au) hF
  u_c Zg (Ab Au) hF
  (repeat u_c Zn (Ab Au) hF)
  u_reg (Ab Au) hF
  iterate 3 (u_op (Ab Au) hF)
  refine ZT (fun KU wH=>?_);replace hF:=Ab Au hF wH;clear wH;refine⟨rfl,fun hw=>⟨_,Zbp (v:=0) rfl rfl (by k_ne) rfl H.f_loadU64 (x_loadU64_n L) (x_loadU64_b L) (x_loadU64_x L) .u64 (x_loadU64_f L) rfl hw.cellSt,40,?_⟩⟩;clear hw
  walk_nrm
  u_op (Ab Au) hF
  u_c Zg (Ab Au) hF
  u_c z8 (Ab Au) hF
  u_leave1 H.f_uLoad (Ab Au) hF
  u_op (Ab Au) hF
  u_op (Ab Au) hF
  u_c Zg (Ab Au) hF
  (repeat u_c Zn (Ab Au) hF)
  u_cond true (Ab Au) hF
  (repeat u_c Zn (Ab Au) hF)
  u_reg (Ab Au) hF
  refine ZT (fun tg aw=>?_);replace hF:=Ab Au hF aw;clear aw;refine⟨rfl,_,Zb6 .enable (by simp) rfl rfl (by k_ne) rfl H.f_enable (x_enable_n L) (x_enable_b L) (x_enable_x L) (x_enable_f L),30,?_⟩
  walk_nrm
  u_c Zg (Ab Au) hF
  u_reg (Ab Au) hF
  u_op (Ab Au) hF
  u_conv H.underlying_tWgP H.room_tWg (WgLive.cell0 hF.2).choose_spec (Ab Au) hF
  refine ZT (fun th ax=>?_);replace hF:=Ab Au hF ax;clear ax;refine⟨rfl,_,ZbN .acquire (by simp) rfl rfl (by k_ne) rfl H.f_acquire (x_acquire_n L) (x_acquire_b L) (x_acquire_x L) (x_acquire_f L) (by simp[ZbM,stA]),mT+40,?_⟩
  walk_nrm
  u_c Zg (Ab Au) hF
  (repeat u_c Zn (Ab Au) hF)
  u_reg (Ab Au) hF
  u_op (Ab Au) hF
  u_c Zg (Ab Au) hF
  u_cond false (Ab Au) hF
  u_c ZU (Ab Au) hF
  u_c z8 (Ab Au) hF
  u_leave0 H.f_wait (Ab Au) hF
  exact QB (hT S Au _ hF.1 hF.2) (by omega)
 refine⟨_,stepG_cas_miss (v:=(v':Int)*KK) (old:=S') (n:=S'+1) rfl rfl (by k_ne) rfl H.f_casU64 (x_casU64_n L) (x_casU64_b L) (x_casU64_x L) .u64 (x_casU64_f L) rfl rfl rfl hw.cellSt (hw.thaw 0) (by rw[<-hS];simp only[KK];omega),30,?_⟩;clear hw
 walk_nrm
 u_op (Ab Au) hF
 u_c Zg (Ab Au) hF
 u_c z8 (Ab Au) hF
 u_leave1 H.f_uCas (Ab Au) hF
 u_c Zg (Ab Au) hF
 u_cond false (Ab Au) hF
 u_c ZU (Ab Au) hF
 u_c stepG_inBlock (Ab Au) hF
 u_c stepG_inLoop (Ab Au) hF
 refine ZT (fun DZ Fv=>?_);replace hF:=Ab Au hF Fv;exact⟨Au,_,rfl,by simp,by simp,hF⟩
def dD {P:Zo}(H:WgLib P L){Wg:Nat}{F:(Nat->Prop)->Zb->Prop}{S:Nat->Prop}(Au:Gm L.tWg Wg S (F S)){b₀:ZM}{Qd:Act}{ES:Array Oper}{Qe:Nat}{EK:List Nat}{Qf:List Item}{cs:List ZM}(w:Zb)(hF:F S w/\WgLive L.tWg Wg w):
  Goes P true (Ah L.tWg Wg S) DC0 (AtKd P L.tWg Wg (VW L F Wg (b₀.at Qd (.inRegion ES (Qe::EK)::Qf)) cs) S) 10
   (G ((base L.wait).at ⟨#[.pointer (some ⟨Wg,0,none⟩),Ze,Ze,Ze,Ze,Ze,Ze,Ze,Ze,Ze,Ze,Ze,Ze,Ze,Ze,Ze,Ze,Ze,Ze,Ze,Ze,Ze,Ze,Ze,Ze,Ze,Ze,Ze,Ze,Ze,Ze,Ze,Ze,Ze,Ze,Ze,Ze,Ze,Ze,Ze,Ze,Ze,Ze,Ze,Ze,Ze,Ze,Ze,Ze,Ze,Ze,Ze,Ze,Ze,Ze,Ze,Ze,Ze,Ze,Ze,Ze,Ze,Ze,Ze,Ze,Ze,Ze,Ze,Ze,Ze,Ze,Ze,Ze,Ze,Ze,Ze,Ze,Ze,Ze,Ze,Ze,Ze,Ze,Ze],[]⟩ [.code (body_wait L)]) (b₀.at Qd (.inRegion ES (Qe::EK)::Qf)::cs)) w:=by
 lib_facts
 simp only[body_wait,waitFn,Zw]
 (repeat u_c Zn (Ab Au) hF)
 u_cond true (Ab Au) hF
 u_reg (Ab Au) hF
 refine ZT (fun w₁ Nx=>?_);replace hF:=Ab Au hF Nx;clear Nx;refine⟨rfl,_,Zb6 .disable (by simp) rfl rfl (by k_ne) rfl H.f_disable (x_disable_n L) (x_disable_b L) (x_disable_x L) (x_disable_f L),20,?_⟩
 walk_nrm
 u_c Zg (Ab Au) hF
 u_c Zbq (Ab Au) hF
 u_c stepG_loop (Ab Au) hF
 exact ZT (fun w₂ Co=>⟨Au,_,rfl,by simp,by simp,Ab Au hF Co⟩)
end
end Go.Pair
namespace Go.Pair
open Go Go.Conc Go.FA
section
variable {P:Zo}{m:Bool}{ty:Zs}{Wg:Nat}{Stop Stop₂:Cd}
variable {S L T₀ S' L':Nat->Prop}
variable {w w' w₁ w₂ w₀:Zb}
def Ah.sub {T:Nat->Prop}(h:Ah ty Wg T w w₂)(hs:∀b,S b->T b):Ah ty Wg S w w₂:=⟨⟨fun b hb=>h.base.same b (hs b hb),h.base.size,h.base.os⟩,h.live⟩
variable {g g' a':Zi}
def Be.aeZ {n₀:Nat}{S₀:Nat->Prop}(hT:∀b,T₀ b->b<n₀)(hST:∀b,S₀ b->T₀ b)(h:Be P m ty Wg S₀ Stop S g w):
  n₀<=w.heap.size->(∀b,S b->S₀ b\/n₀<=b)->(∀b,S₀ b->S b)->
  (∀S g w,(∀b,S b->S₀ b\/n₀<=b)->Stop S g w->Stop₂ (fun b=>S b\/T₀ b) g w)->Be P m ty Wg T₀ Stop₂ (fun b=>S b\/T₀ b) g w:=by
 induction h with
 |stop h=>
  intro _ hS _ hi;exact .stop fun w₂ hr=>hi _ _ _ hS (h w₂ (hr.sub fun b hb=>.inl hb))
 | @step S g w hs GI EP I6 h _ ih=>
  intro hn hS tj hi;refine .XS hs fun w₂ hr=>?_;have Pn:Ah ty Wg S w w₂:=hr.sub fun b hb=>.inl hb;obtain⟨h1,hG⟩:=h w₂ Pn;have wI:n₀<=w₂.heap.size:=Zr hn hr.base.size;have af0:Ib (fun b=>S b\/T₀ b) w₂ (EP w₂)=fun b=>Ib S w₂ (EP w₂) b\/T₀ b:=by
   funext b
   apply propext;unfold Ib;constructor
   .rintro((x|x)|x)
    .exact .inl (.inl x)
    .exact .inr x
    exact .inl (.inr x)
   rintro((x|x)|x)
   .exact .inl (.inl x)
   .exact .inr x
   exact .inl (.inr x)
  refine⟨_,_,_,h1,⟨hG.size,fun b hb hx=>?_,hG.os,hG.tape,hG.output,fun e he=>?_⟩,?_⟩
  .refine hG.still b hb ?_
   rcases hx with hx|hx
   .exact .inl fun y=>hx (.inl y)
   by_cases hSb:S b
   .rcases hS b hSb with y|y
    .exact .inr y
    have:=hT b hx;omega
   exact .inl hSb
  .have:=hG.evs e he
   rw[af0];unfold VN at this⊢;have key:∀b,Ib S w₂ (EP w₂) b->(e.write=true->¬S₀ b)->e.write=true->¬T₀ b:=by
    intro b hb hw Qu ht;rcases hb with y|y
    .rcases hS b y with z|z
     .exact hw Qu z
     have:=hT b ht;omega
    have:=hT b ht;omega
   split
   .rename_i a hl
    rw[hl]at this;exact⟨.inl this.1,key _ this.1 this.2⟩
   .rename_i r hl
    rw[hl]at this;exact⟨.inl this.1,key _ this.1 this.2⟩
   .trivial
   .trivial
   rename_i h1 h2 h3 h4;split at this
   .exact absurd ‹_› (h1 _)
   .exact absurd ‹_› (h2 _)
   .exact absurd ‹_› h3
   .exact absurd ‹_› h4
   exact this
  rw[af0];refine ih w₂ Pn (Zr wI hG.size) (fun b hb=>?_) (fun b hb=>.inl (tj b hb)) hi;rcases hb with y|y
  .exact hS b y
  exact .inr (Zr wI y.1)
end
end Go.Pair
namespace Go.Pair
open Go Go.Conc Go.FA
open Go.ConcN (WgLive)
structure Kept (ty:Zs)(Wg:Nat)(T₀:Nat->Prop)(w₀:Zb)(S:Nat->Prop)(w:Zb):Prop where
 sub:∀b,T₀ b->S b/\b<w.heap.size
 rely:D1 T₀ w₀ w
 oq:¬S Wg
 lt:Wg<w.heap.size
 live:WgLive ty Wg w
variable {ty:Zs}
variable {p b i j k s' e' m' dd' d KP f' m Wg n:Nat}
variable {w w' w₁ w₂ w₀:Zb}
def WgLive.of_heap (h:WgLive ty Wg w)(e:w₁.heap[Wg]?=w.heap[Wg]?):WgLive ty Wg w₁:=by
 unfold WgLive Go.ConcR.WgAt at*;rw[e];exact h
section
variable {P:Zo}{m:Bool}{ty:Zs}{Wg:Nat}{Stop:Cd}
variable {S L T₀ S' L':Nat->Prop}
def Kept.rel (h:Kept ty Wg T₀ w₀ S w)(hr:Ah ty Wg S w w₂):Kept ty Wg T₀ w₀ S w₂:=
 ⟨fun b hb=>⟨(h.sub b hb).1,Zl (h.sub b hb).2 hr.base.size⟩,h.rely.trans ⟨fun b hb=>hr.base.same b (h.sub b hb).1,hr.base.size,hr.base.os⟩,h.oq,Zl h.lt hr.base.size,hr.live h.live⟩
def Kept.step {T₀ S:Nat->Prop}{w₀ w w₁:Zb}{es:Array Z9}(h:Kept ty Wg T₀ w₀ S w)(hG:LN S T₀ w w₁ es):Kept ty Wg T₀ w₀ (Ib S w w₁) w₁:=by
 refine⟨fun b hb=>⟨.inl (h.sub b hb).1,Zl (h.sub b hb).2 hG.size⟩,h.rely.trans ⟨fun b hb=>hG.still b (h.sub b hb).2 (.inr hb),hG.size,hG.os⟩,?_,Zl h.lt hG.size,WgLive.of_heap h.live (hG.still Wg h.lt (.inl h.oq))⟩;rintro(x|x)
 .exact h.oq x
 have:=h.lt;omega
variable {g g' a':Zi}
def Be.Ar (h:Be P m ty Wg T₀ Stop S g w):Kept ty Wg T₀ w₀ S w->
  Be P m ty Wg T₀ (fun S g w=>Stop S g w/\Kept ty Wg T₀ w₀ S w) S g w:=by
 induction h with
 |stop h=>
  intro hk;exact .stop fun w₂ hr=>⟨h w₂ hr,hk.rel hr⟩
 |step hs GI EP I6 h _ ih=>
  intro hk;exact .step hs GI EP I6 h fun w₂ hr=>ih w₂ hr ((hk.rel hr).step (h w₂ hr).2)
end
end Go.Pair
