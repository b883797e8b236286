/- Part of a proof. -/
import Derived.Test.YtkkjobdfheidkaaGreatDoorQ02
import Derived.Conc.CrowdRun
set_option maxRecDepth 100000
set_option maxHeartbeats 6400000
set_option linter.unusedVariables false
set_option linter.unusedSimpArgs false
open Array renaming mem_of_getElem?→zM,getElem?_eq_some_iff→Za,getElem?_eq_getElem→ZB,getElem?_setIfInBounds_ne→Zk,getElem?_setIfInBounds_self_of_lt→Z9
open Classical renaming choose→ze,choose_spec→zl
open Go renaming TypeId→Zs,World→Zb,Goroutine→Zg,Program→Zp,Event→ZU,stepG→Z6,Trace→YL,Value→Zc,undef→Ze,FuncId→YT,deafBehind→zI
open Go.Conc renaming touchAt→ZaI,getElem?_append_cases→Yl,getElem?_append_old→YH,semEvents→Zam,served→YQ,Deaf_other→YN,mem_ofEvents→ZJ,crowd→Yg,aside_setCell→YR
open Go.Conc.Goes renaming rely→zR,running→zk,stop→ZQ,cases→zG
open Go.ConcN renaming Mode→zT
open Go.ConcR renaming ofEvent_loc_mark→zt
open Go.MemAct renaming touch?→zV,ofEvent→ZK
open Go.MemOp renaming ofEvents→ZE
open Go.Trace renaming g?→YY
open Go.World renaming setCell→Z1
open List renaming mem_append→Zax
open Nat renaming le_refl→Zj,zero_le→Zt,lt_of_lt_of_le→Zl,le_trans→Zx,lt_or_ge→Zae,eq_zero_or_pos→Yr
open Option renaming map_eq_some_iff→zd
open Option.some renaming injEq→ZI,inj→Z2
open Prod.Lex renaming left→ZaP,right→zp
namespace Go.Pair
open Go Go.Conc Go.BK
open Go.ConcN (PermW fork_knows RelBy Deaf_absent Deaf_still WgLive)
open Go.ConcR (WgAt stA smA)
def LU (Wg:Nat)(l:Loc):Prop:=∃a:Addr,l=.cell a∧a.block=Wg
def blk:Loc→Option Nat
 | .cell a=>some a.block
 | .obj r=>some r
 |_=>none
structure Ah (ty:Zs)(Wg:Nat)(S:Nat→Prop)(w w₂:Zb):Prop where
 base:DM S w w₂
 live:WgLive ty Wg w→WgLive ty Wg w₂
section
variable {ty:Zs}{Wg:Nat}{S:Nat→Prop}{w w₁ w₂:Zb}
theorem Ah.refl (w:Zb):Ah ty Wg S w w:=⟨DM.refl _ _,id⟩
theorem Ah.trans (h:Ah ty Wg S w w₁)(k:Ah ty Wg S w₁ w₂):Ah ty Wg S w w₂:=⟨h.base.trans k.base,k.live∘h.live⟩
theorem Ah.at (w:Zb)(d:Nat):Ah ty Wg S w (w.at d):=⟨eJ S w d,id⟩
end
theorem Hc (S:Nat→Prop)(w:Zb):Hr S w w=S:=by
 funext b
 apply propext;unfold Hr;constructor
 ·rintro(h|⟨h,k⟩)
  ·exact h
  ·omega
 ·exact .inl
theorem Ro (S:Nat→Prop){w w' u:Zb}(h:w'.heap.size=u.heap.size):Hr S w w'=Hr S w u:=by
 unfold Hr;rw[h]
abbrev B0:=(Nat→Prop)→Zg→Zb→Prop
inductive A7 (P:Zp)(m:Bool)(ty:Zs)(Wg:Nat)(Lk:Nat→Prop)(Stop:B0):(Nat→Prop)→Zg→Zb→Prop
 |stop {S:Nat→Prop} {g:Zg} {w:Zb} (h:∀w₂,Ah ty Wg S w w₂→Stop S g w₂):A7 P m ty Wg Lk Stop S g w
 |step {S:Nat→Prop} {g:Zg} {w:Zb} (hs:g.status=.running) (Gr:Zb→Zg) (EC:Zb→Zb) (Ix:Zb→Array ZU)
   (h:∀w₂,Ah ty Wg S w w₂→Z6 P m g w₂=.go (Gr w₂) (EC w₂) (Ix w₂)∧Lb S Lk w₂ (EC w₂) (Ix w₂)) (k:∀w₂,Ah ty Wg S w w₂→A7 P m ty Wg Lk Stop (Hr S w₂ (EC w₂)) (Gr w₂) (EC w₂)):A7 P m ty Wg Lk Stop S g w
section
variable {P:Zp}{m:Bool}{ty:Zs}{Wg:Nat}{Lk:Nat→Prop}{Stop Stop₂:B0}{S:Nat→Prop}{g:Zg}{w w₁:Zb}
open Classical in
theorem A7.WS (hs:g.status=.running)
  (hx:∀w₂,Ah ty Wg S w w₂→∃AE w₁ es,Z6 P m g w₂=.go AE w₁ es∧Lb S Lk w₂ w₁ es∧A7 P m ty Wg Lk Stop (Hr S w₂ w₁) AE w₁):A7 P m ty Wg Lk Stop S g w:=by
 have hy:∀w₂,∃p:Zg×Zb×Array ZU,Ah ty Wg S w w₂→Z6 P m g w₂=.go p.1 p.2.1 p.2.2∧Lb S Lk w₂ p.2.1 p.2.2∧A7 P m ty Wg Lk Stop (Hr S w₂ p.2.1) p.1 p.2.1:=by
  intro w₂;by_cases h:Ah ty Wg S w w₂
  ·obtain⟨AE,w₁,es,h1,h2,h3⟩:=hx w₂ h
   exact⟨(AE,w₁,es),fun _=>⟨h1,h2,h3⟩⟩
  ·exact⟨(g,w,#[]),fun x=>absurd x h⟩
 refine .step hs (fun w₂=>(ze (hy w₂)).1) (fun w₂=>(ze (hy w₂)).2.1) (fun w₂=>(ze (hy w₂)).2.2) (fun w₂ h=>?_) fun w₂ h=>?_
 ·exact⟨(zl (hy w₂) h).1,(zl (hy w₂) h).2.1⟩
 ·exact(zl (hy w₂) h).2.2
theorem A7.imp (h:A7 P m ty Wg Lk Stop S g w)(hi:∀S g w,Stop S g w→Stop₂ S g w):A7 P m ty Wg Lk Stop₂ S g w:=by
 induction h with
 |stop h=>exact .stop fun w₂ Ce=>hi _ _ _ (h w₂ Ce)
 |step hs Gr EC Ix h _ ih=>exact .step hs Gr EC Ix h ih
theorem A7.bind (h:A7 P m ty Wg Lk Stop S g w)(hi:∀S g w,(∀w₂,Ah ty Wg S w w₂→Stop S g w₂)→A7 P m ty Wg Lk Stop₂ S g w):A7 P m ty Wg Lk Stop₂ S g w:=by
 induction h with
 |stop h=>exact hi _ _ _ h
 |step hs Gr EC Ix h _ ih=>exact .step hs Gr EC Ix h ih
theorem A7.of_run (h:Wa P m Lk Stop S g w):A7 P m ty Wg Lk Stop S g w:=by
 induction h with
 |stop h=>exact .stop fun w₂ Ce=>h w₂ Ce.base
 |step hs Gr EC Ix h _ ih=>exact .step hs Gr EC Ix (fun w₂ Ce=>h w₂ Ce.base) fun w₂ Ce=>ih w₂ Ce.base
theorem il (S Lk:Nat→Prop)(w:Zb):Lb S Lk w w #[]:=⟨Zj _,fun _ _ _=>rfl,rfl,rfl,rfl,fun e he=>by simp at he⟩
theorem A7.GM {St:B0}:∀ {n:Nat} {g:Zg} {w:Zb},Goes P m (Ah ty Wg S) Go.ConcR.DC0 (St S) n g w→A7 P m ty Wg Lk St S g w:=by
 intro n
 induction n with
 |zero=>intro g w h;exact .stop h
 |succ n ih=>
  intro g w h;rcases h with h|⟨hs,h⟩
  ·exact .stop h
  ·refine .WS hs fun w₂ hr=>?_
   have:=h w₂ hr;cases hx:Z6 P m g w₂ with
   |go AE w₁ es=>
    rw[hx,goes_go]at this;obtain⟨⟨rfl,rfl⟩,hg⟩:=this;exact⟨_,_,_,rfl,il _ _ _,by rw[Hc];exact ih hg⟩
   |_=>rw[hx]at this;exact this.elim
abbrev St:=(Nat→Prop)×Zg×Zb
def Child (P:Zp)(ty:Zs)(Wg:Nat)(y x:Bool×B0×St):Prop:=
 y.1=x.1∧y.2.1=x.2.1∧(¬∀w₂,Ah ty Wg x.2.2.1 x.2.2.2.2 w₂→x.2.1 x.2.2.1 x.2.2.2.1 w₂)∧
  ∃w₂ es,Ah ty Wg x.2.2.1 x.2.2.2.2 w₂∧Z6 P x.1 x.2.2.2.1 w₂=.go y.2.2.2.1 y.2.2.2.2 es∧y.2.2.1=Hr x.2.2.1 w₂ y.2.2.2.2
theorem A7.acc (h:A7 P m ty Wg Lk Stop S g w):Acc (Child P ty Wg) (m,Stop,S,g,w):=by
 induction h with
 |stop h=>exact⟨_,fun y hy=>absurd h hy.2.2.1⟩
 | @step S g w hs Gr EC Ix h _ ih=>
  refine⟨_,fun y hy=>?_⟩;obtain⟨m',St',S',g',w'⟩:=y;obtain⟨h1,h2,_,w₂,es,hr,B3,hS⟩:=hy;dsimp only at h1 h2 hr B3 hS;subst h1 h2;rw[(h w₂ hr).1]at B3;cases B3;rw[hS];exact ih w₂ hr
def Fuel (P:Zp)(ty:Zs)(Wg:Nat):Type:= {x:Bool×B0×St // Acc (Child P ty Wg) x}
def Fuel.lt {P:Zp}{ty:Zs}{Wg:Nat}(a b:Fuel P ty Wg):Prop:=Child P ty Wg a.1 b.1
theorem Fuel.wf (P:Zp)(ty:Zs)(Wg:Nat):WellFounded (@Fuel.lt P ty Wg):=by
 refine⟨fun⟨x,hx⟩=>?_⟩
 induction hx with
 |intro x hx ih=>
  exact⟨_,fun⟨y,hy⟩ Az=>ih y Az⟩
end
def A7.fuel {P:Zp}{m:Bool}{ty:Zs}{Wg:Nat}{Lk:Nat→Prop}{Stop:B0}{S:Nat→Prop}{g:Zg}{w:Zb}(h:A7 P m ty Wg Lk Stop S g w):Fuel P ty Wg:=⟨(m,Stop,S,g,w),h.acc⟩
section
def Fuel.none (P:Zp)(ty:Zs)(Wg:Nat):Fuel P ty Wg:=
 ⟨(false,fun _ _ _=>True,fun _=>False,default,default),⟨_,fun _ hy=>absurd (fun _ _=>trivial) hy.2.2.1⟩⟩
end
end Go.Pair
namespace Go.Pair
open Go Go.Conc Go.BK
open Go.ConcN (PermW fork_knows RelBy Deaf_absent Deaf_still)
open Go.ConcR (WgAt stA smA g_of_ofEvents)
def ix (K:Nat):Nat→Nat
 |0=>0
 |i+1=>K+i
structure Je where
 S:Nat→Nat→Prop
 L:Nat→Nat→Prop
structure TI (K Wg:Nat)(Shun:Loc→Prop)(H:Je)(j n:Nat)(t:YL):Prop where
 nr:∀said,¬Race said t
 seen:∀op∈t,op.act.low n
 kn:∀i a,ZaI t i=some a→a.loc.isMemory=true→Knows t 0 i∨(Shun a.loc∧a.kind=.atomic)∨∃p,1≤p∧p≤j∧t.g? i=some (ix K p)
 pw:∀p,p≤j→∀b,H.S p b→∀l,blk l=some b→PermW t (ix K p) l
 pr:∀p,p≤j→∀b,H.S p b→¬H.L p b→∀l,blk l=some b→Perm t (ix K p) l
 wq:∀i a,ZaI t i=some a→LU Wg a.loc→(a.kind=.plain→∀p,p≤j→Knows t (ix K p) i)∧(a.kind=.said→Knows t 0 i)
 ov:∀i g,t.g? i=some g→g≠0→t.counts i→(∃k,t.g? k=some 0∧HappensBefore t i k)∨∃p,1≤p∧p≤j∧g=ix K p
structure Apt (Wg:Nat)(H:Je)(j n:Nat):Prop where
 two:∀p q,p≤j→q≤j→p≠q→∀b,H.S p b→H.S q b→H.L p b
 wg:∀p,p≤j→¬H.S p Wg
 low:∀p,p≤j→∀b,H.S p b→b<n
def Je.set (H:Je)(p:Nat)(S L:Nat→Prop):Je:=⟨fun q=>if q=p then S else H.S q,fun q=>if q=p then L else H.L q⟩
section
variable {K Wg:Nat}{Shun:Loc→Prop}{H:Je}{j n n':Nat}{t u:YL}
theorem AX (p:Nat)(S L:Nat→Prop):(H.set p S L).S p=S∧(H.set p S L).L p=L:=by simp[Je.set]
theorem Bx {p q:Nat}(h:q≠p)(S L:Nat→Prop):(H.set p S L).S q=H.S q∧(H.set p S L).L q=H.L q:=by simp[Je.set,h]
theorem qO {l:Loc}{b:Nat}(h:blk l=some b){B:Nat}:l.low B↔b<B:=by
 cases l<;>simp[blk]at h<;>subst h<;>rfl
theorem TQ {a:Touch}{i b:Nat}(h:∀op∈t,op.act.low n)(ha:ZaI t i=some a)(hb:blk a.loc=some b)(hn:n≤b):False:=by
 obtain⟨x,hx,U6⟩:=touch_of ha;have:=h x (zM hx);generalize x.act=act at this U6;cases act with
 |access e=>
  simp only[zV,ZI]at U6;subst U6;have:=(qO hb).1 this;omega
 |mark m=>
  cases m<;>simp only[zV,ZI,reduceCtorEq]at U6
  all_goals
   subst U6;simp only[blk,ZI]at hb;have:_<n:=this;omega
 |_=>simp[zV]at U6
theorem b_ (h:∀i g,t.g? i=some g→g≠0→t.counts i→(∃k,t.g? k=some 0∧HappensBefore t i k)∨∃p,1≤p∧p≤j∧g=ix K p)(hu:∀op∈u,op.g=0∨(∃p,1≤p∧p≤j∧op.g=ix K p)∨op.act.touch?=none):
  ∀i g,(t++u).g? i=some g→g≠0→(t++u).counts i→(∃k,(t++u).g? k=some 0∧HappensBefore (t++u) i k)∨∃p,1≤p∧p≤j∧g=ix K p:=by
 intro i g hg BI hc;have NT:=hc;obtain⟨x,hx,_⟩:=NT;obtain⟨op,hop,hox⟩:=touch_of hx;rcases Yl hop with⟨hi,h_⟩|⟨_,aiQ⟩
 ·rcases h i g (by simpa[YY,YH hi]using hg) BI ((counts_old hi).1 hc) with⟨k,hk,hb⟩|z
  ·have U3:k<t.size:=by
    unfold YY at hk;obtain⟨z,hz,_⟩:=zd.1 hk;exact lt_size_of_getElem? hz
   exact .inl ⟨k,by simpa[YY,YH U3]using hk,hb_app u hb⟩
  ·exact .inr z
 ·have hgo:op.g=g:=by simpa[YY,hop]using hg
  rcases hu op aiQ with h0|⟨p,h1,h2,h3⟩|h0
  ·exact absurd (hgo.symm.trans h0) BI
  ·exact .inr ⟨p,h1,h2,hgo.symm.trans h3⟩
  ·rw[h0]at hox;cases hox
theorem TI.grow (h:TI K Wg Shun H j n t)(hn:n≤n'){p:Nat}{S L:Nat→Prop}(hS:∀b,S b→H.S p b∨n≤b)(hL:∀b,H.L p b→S b→L b):TI K Wg Shun (H.set p S L) j n' t:=by
 refine⟨h.nr,fun op hop=>MemAct.low_mono hn (h.seen op hop),h.kn,fun q hq b hb l hl=>?_,fun q hq b hb P3 l hl=>?_,h.wq,h.ov⟩
 ·by_cases e:q=p
  ·subst e
   rw[(AX q S L).1]at hb;rcases hS b hb with x|x
   ·exact h.pw q hq b x l hl
   ·exact fun i a ha e _=>(TQ h.seen ha (e▸hl) x).elim
  ·rw[(Bx e S L).1]at hb
   exact h.pw q hq b hb l hl
 ·by_cases e:q=p
  ·subst e
   rw[(AX q S L).1]at hb;rw[(AX q S L).2]at P3;rcases hS b hb with x|x
   ·exact h.pr q hq b x (fun y=>P3 (hL b y hb)) l hl
   ·exact fun i a ha e=>(TQ h.seen ha (e▸hl) x).elim
  ·rw[(Bx e S L).1]at hb
   rw[(Bx e S L).2]at P3;exact h.pr q hq b hb P3 l hl
theorem EZ {l:Loc}{b:Nat}(h:blk l=some b):l.isMemory=true:=by
 cases l<;>simp[blk]at h<;>rfl
theorem Kj {l:Loc}(h:LU Wg l):blk l=some Wg:=by
 obtain⟨a,rfl,rfl⟩:=h;rfl
theorem TI.app (h:TI K Wg Shun H j n t)(A:Apt Wg H j n){p:Nat}(hp:p≤j)(hg:∀op∈u,op.g=ix K p)(hl:∀op∈u,op.act.low n)
  (ho:∀op∈u,∀x,op.act.touch?=some x→(LU Wg x.loc∧x.kind≠ .plain∧(x.kind=.said→p=0))∨(∃b,blk x.loc=some b∧H.S p b∧(x.write=true→¬H.L p b))∨x.loc.isMemory=false):TI K Wg Shun H j n (t++u):=by
 have own:∀ {i:Nat} {a:Touch},ZaI (t++u) i=some a→(i<t.size∧ZaI t i=some a)∨(Knows (t++u) (ix K p) i∧(t++u).g? i=some (ix K p)∧∃op∈u,op.act.touch?=some a):=by
  intro i a ha;obtain⟨x,hx,U6⟩:=touch_of ha;rcases Yl hx with⟨hi,lQ⟩|⟨_,xe⟩
  ·exact .inl ⟨hi,by rw[touchAt_of lQ];exact U6⟩
  ·have:=knows_own hx
   rw[hg x xe]at this;exact .inr ⟨this,by simp[YY,hx,hg x xe],x,xe,U6⟩
 refine⟨fun said=>noRace_append (h.nr said) hg fun i a ha op hop b hb hc=>?_,seen_app h.seen hl,fun i a ha hm=>?_,fun q hq b hb l JH=>(h.pw q hq b hb l JH).app fun op hop x hx e hw=>?_,
  fun q hq b hb P3 l JH=>(h.pr q hq b hb P3 l JH).app fun op hop x hx e=>?_,fun i a ha hw=>?_,b_ h.ov fun op hop=>?_⟩
 ·obtain⟨he,hm,hw,hk⟩:=hc
  rcases ho op hop b hb with⟨h1,h2,h3⟩|⟨c,h1,h2,h3⟩|h1
  ·have:=h.wq i a ha (he▸h1)
   rcases hk with k|k|⟨_,k,k'⟩
   ·exact this.1 k p hp
   ·exact absurd k h2
   ·have hp0:=h3 k'
    subst hp0;exact this.2 k
  ·cases GN:b.write with
   |true=>exact h.pr p hp c h2 (h3 GN) b.loc h1 i a ha he
   |false=>
    have:a.write=true:=by
     rcases hw with x|x
     ·exact x
     ·rw[GN]at x;cases x
    exact h.pw p hp c h2 b.loc h1 i a ha he this
  ·rw[←he]at h1
   rw[h1]at hm;cases hm
 ·rcases own ha with⟨hi,ha'⟩|⟨hk,pE,op,hop,hx⟩
  ·rcases h.kn i a ha' hm with x|x|⟨q,h1,h2,h3⟩
   ·exact .inl (x.app u)
   ·exact .inr (.inl x)
   ·refine .inr (.inr ⟨q,h1,h2,?_⟩)
    simpa[YY,YH hi]using h3
  ·cases p with
   |zero=>exact .inl hk
   |succ p=>exact .inr (.inr ⟨p+1,by omega,hp,pE⟩)
 ·by_cases epq:p=q
  ·subst epq;exact hg op hop
  ·exfalso
   rcases ho op hop x hx with⟨h1,_⟩|⟨c,h1,h2,h3⟩|h1
   ·rw[e]at h1
    have:=Kj h1;rw[JH]at this;cases this;exact A.wg q hq hb
   ·rw[e,JH]at h1
    cases h1;exact h3 hw (A.two p q hp hq epq b h2 hb)
   ·rw[e,EZ JH]at h1;cases h1
 ·by_cases epq:p=q
  ·subst epq;exact hg op hop
  ·exfalso
   rcases ho op hop x hx with⟨h1,_⟩|⟨c,h1,h2,h3⟩|h1
   ·rw[e]at h1
    have:=Kj h1;rw[JH]at this;cases this;exact A.wg q hq hb
   ·rw[e,JH]at h1
    cases h1;exact P3 (A.two q p hq hp (Ne.symm epq) b hb h2)
   ·rw[e,EZ JH]at h1;cases h1
 ·rcases own ha with⟨hi,ha'⟩|⟨hk,pE,op,hop,hx⟩
  ·exact⟨fun x q hq=>((h.wq i a ha' hw).1 x q hq).app u,fun x=>((h.wq i a ha' hw).2 x).app u⟩
  ·rcases ho op hop a hx with⟨_,h2,h3⟩|⟨c,h1,h2,_⟩|h1
   ·refine⟨fun x=>absurd x h2,fun x=>?_⟩
    have:=h3 x;subst this;exact hk
   ·rw[Kj hw]at h1
    cases h1;exact absurd h2 (A.wg p hp)
   ·rw[EZ (Kj hw)]at h1;cases h1
 ·rw[hg op hop]
  cases p with
  |zero=>exact .inl rfl
  |succ p=>exact .inr (.inl ⟨p+1,by omega,hp,rfl⟩)
theorem TI.mute (h:TI K Wg Shun H j n t){g:Nat}(hg:∀op∈u,op.g=g)(hl:∀op∈u,op.act.low n)(hn:∀op∈u,op.act.touch?=none):TI K Wg Shun H j n (t++u):=by
 have old:∀ {i:Nat} {a:Touch},ZaI (t++u) i=some a→i<t.size∧ZaI t i=some a:=by
  intro i a ha;obtain⟨z,hz,xf⟩:=touch_of ha;rcases Yl hz with⟨hi,hz'⟩|⟨_,hzu⟩
  ·exact⟨hi,by rw[touchAt_of hz'];exact xf⟩
  ·rw[hn z hzu]at xf;cases xf
 refine⟨fun said=>noRace_append (h.nr said) hg fun i a _ op hop b hb _=>(by rw[hn op hop]at hb;cases hb),seen_app h.seen hl,fun i a ha hm=>?_,fun q hq b hb l JH=>(h.pw q hq b hb l JH).app fun op hop x hx _ _=>(by rw[hn op hop]at hx;cases hx),
  fun q hq b hb P3 l JH=>(h.pr q hq b hb P3 l JH).app fun op hop x hx _=>(by rw[hn op hop]at hx;cases hx),fun i a ha hw=>?_,b_ h.ov fun op hop=>.inr (.inr (hn op hop))⟩
 ·obtain⟨hi,ha'⟩:=old ha
  rcases h.kn i a ha' hm with x|x|⟨q,h1,h2,h3⟩
  ·exact .inl (x.app u)
  ·exact .inr (.inl x)
  ·refine .inr (.inr ⟨q,h1,h2,?_⟩)
   simpa[YY,YH hi]using h3
 ·obtain⟨hi,ha'⟩:=old ha
  exact⟨fun x q hq=>((h.wq i a ha' hw).1 x q hq).app u,fun x=>((h.wq i a ha' hw).2 x).app u⟩
theorem TI.fork (h:TI K Wg Shun H j n t){x y:MemOp}(hx:x.g=0∧x.act=.go (K+j))(hy:y.g=K+j∧y.act=.start)(h0:Deaf t 0=0)(hk:Deaf t (K+j)=0):
  TI K Wg Shun ((H.set (j+1) (H.S 0) (H.S 0)).set 0 (H.S 0) (H.S 0)) (j+1) n (t++ #[x,y]):=by
 have hm:∀op∈#[x,y],op=x∨op=y:=by intro op hop;simpa using hop
 have uh:∀op∈#[x,y],op.act.touch?=none:=by
  intro op hop;rcases hm op hop with rfl|rfl
  ·rw[hx.2];rfl
  ·rw[hy.2];rfl
 have old:∀ {i:Nat} {a:Touch},ZaI (t++ #[x,y]) i=some a→i<t.size∧ZaI t i=some a:=by
  intro i a ha;obtain⟨z,hz,xf⟩:=touch_of ha;rcases Yl hz with⟨hi,hz'⟩|⟨_,hzu⟩
  ·exact⟨hi,by rw[touchAt_of hz'];exact xf⟩
  ·rw[uh z hzu]at xf;cases xf
 have fk:∀ {i:Nat},Knows t 0 i→Knows (t++ #[x,y]) (K+j) i:=fun h=>fork_knows hx hy h0 hk h;have hw:∀q,q≤j+1→∀b,((H.set (j+1) (H.S 0) (H.S 0)).set 0 (H.S 0) (H.S 0)).S q b→∀l,blk l=some b→PermW (t++ #[x,y]) (ix K q) l:=by
  intro q hq b hb l hl i a ha e w_;obtain⟨_,ha'⟩:=old ha;by_cases e0:q=0
  ·subst e0
   rw[(AX 0 _ _).1]at hb;exact(h.pw 0 (Zt _) b hb l hl i a ha' e w_).app _
  ·rw[(Bx e0 _ _).1]at hb
   by_cases e1:q=j+1
   ·subst e1
    rw[(AX _ _ _).1]at hb;exact fk (h.pw 0 (Zt _) b hb l hl i a ha' e w_)
   ·rw[(Bx e1 _ _).1]at hb
    exact(h.pw q (by omega) b hb l hl i a ha' e w_).app _
 refine⟨fun said=>?_,seen_app h.seen (fun op hop=>?_),fun i a ha hmm=>?_,hw,fun q hq b hb P3 l hl=>?_,fun i a ha Da=>?_,fun i g pE BI hc=>?_⟩
 ·have e:t++ #[x,y]=(t++ #[x])++ #[y]:=by apply Array.ext';simp
  rw[e];refine noRace_append (g:=K+j) (noRace_append (g:=0) (h.nr said) (fun op hop=>by simp at hop;rw[hop];exact hx.1) (fun i a _ op hop b hb _=>(by rw[uh op (by simp at hop⊢;exact .inl hop)]at hb;cases hb)))
   (fun op hop=>by simp at hop;rw[hop];exact hy.1) (fun i a _ op hop b hb _=>(by rw[uh op (by simp at hop⊢;exact .inr hop)]at hb;cases hb))
 ·rcases hm op hop with rfl|rfl
  ·rw[hx.2];trivial
  ·rw[hy.2];trivial
 ·obtain⟨hi,ha'⟩:=old ha
  rcases h.kn i a ha' hmm with z|z|⟨q,h1,h2,h3⟩
  ·exact .inl (z.app _)
  ·exact .inr (.inl z)
  ·refine .inr (.inr ⟨q,h1,by omega,?_⟩)
   simpa[YY,YH hi]using h3
 ·by_cases e0:q=0
  ·subst e0
   rw[(AX 0 _ _).1]at hb;rw[(AX 0 _ _).2]at P3;exact absurd hb P3
  ·rw[(Bx e0 _ _).1]at hb
   rw[(Bx e0 _ _).2]at P3;by_cases e1:q=j+1
   ·subst e1
    rw[(AX _ _ _).1]at hb;rw[(AX _ _ _).2]at P3;exact absurd hb P3
   ·rw[(Bx e1 _ _).1]at hb
    rw[(Bx e1 _ _).2]at P3;intro i a ha e;exact(h.pr q (by omega) b hb P3 l hl i a (old ha).2 e).app _
 ·obtain⟨hi,ha'⟩:=old ha
  refine⟨fun z q hq=>?_,fun z=>((h.wq i a ha' Da).2 z).app _⟩;by_cases e1:q=j+1
  ·subst e1
   exact fk ((h.wq i a ha' Da).1 z 0 (Zt _))
  ·exact((h.wq i a ha' Da).1 z q (by omega)).app _
 ·rcases b_ h.ov (fun op hop=>.inr (.inr (uh op hop))) i g pE BI hc with z|⟨p,h1,h2,h3⟩
  ·exact .inl z
  ·exact .inr ⟨p,h1,by omega,h3⟩
theorem TI.qP (h:Past Shun n t)(hS:∀b,H.S 0 b→b<n∧∀l,blk l=some b→¬Shun l)(hWg:∀l,LU Wg l→¬Shun l):TI K Wg Shun H 0 n t:=by
 have kn:∀b,(∀l,blk l=some b→¬Shun l)→∀l,blk l=some b→Perm t 0 l:=by
  intro b hb l hl i a ha e;rcases h.known i a ha (by rw[e];exact EZ hl) with x|⟨x,_⟩
  ·exact x
  ·exact absurd (e▸x) (hb l hl)
 refine⟨h.clean,h.seen,fun i a ha hm=>(h.known i a ha hm).imp id .inl,fun p hp b hb l hl=>?_,fun p hp b hb _ l hl=>?_,fun i a ha hw=>?_,fun i g h1 h2 h3=>.inl (h.over i g h1 h2 h3)⟩
 ·obtain rfl:p=0:=by omega
  exact PermW.of (kn b (hS b hb).2 l hl)
 ·obtain rfl:p=0:=by omega
  exact kn b (hS b hb).2 l hl
 ·have k:Knows t 0 i:=by
   rcases h.known i a ha (EZ (Kj hw)) with x|⟨x,_⟩
   ·exact x
   ·exact absurd x (hWg _ hw)
  refine⟨fun _ p hp=>?_,fun _=>k⟩;obtain rfl:p=0:=by omega
  exact k
end
end Go.Pair
namespace Go.Pair
open Go Go.Conc Go.BK
open Go.ConcN (PermW RelBy WgLive CTag phi pend isOpen isW3 isFin OpenSt AllQuit Mode WD Vc Ssum Fsum cnt sumTo upd)
open Go.ConcR (KK WgAt stA smA rd wr mk DC0 Bk)
section
variable(P:Zp)(ty:Zs)(Wg Ch:Nat)
section
variable(S:Nat→Prop)
def AtD4 (g:Zg)(w:Zb):Prop:=
 g.status=.running∧mayWake P g=true∧(WgAt ty Wg w 0 0→∃g',Z6 P false g w=.go g' (w.setCell (smA Wg) (.int .u32 1)) (Zam (smA Wg))∧∃q,QuitsD P q 1 g')
def AtD3 (g:Zg)(w:Zb):Prop:=
 g.status=.running∧(WgAt ty Wg w 1 0→∃g',Z6 P false g w=.go g' (w.setCell (stA Wg) (.int .u64 0)) #[wr (stA Wg)]∧∃m,Goes P false (Ah ty Wg S) DC0 (AtD4 P ty Wg) m g' (w.setCell (stA Wg) (.int .u64 0)))
def AtD2 (g:Zg)(w:Zb):Prop:=
 g.status=.running∧(WgAt ty Wg w 1 0→∃g',Z6 P false g w=.go g' w #[rd (stA Wg)]∧∃m,Goes P false (Ah ty Wg S) DC0 (AtD3 P ty Wg S) m g' w)
def AtD1 (g:Zg)(w:Zb):Prop:=
 g.status=.running∧∀v wt:Nat,wt≤1→v<2147483647→WgAt ty Wg w ((v+1)*KK+wt) 0→
  ∃g',Z6 P false g w=.go g' (w.setCell (stA Wg) (.int .u64 (v*KK+wt))) #[rd (stA Wg),wr (stA Wg)]∧
   ((v=0∧wt=1)→∃m,Goes P false (Ah ty Wg S) DC0 (AtD2 P ty Wg S) m g' (w.setCell (stA Wg) (.int .u64 (v*KK+wt))))∧(¬(v=0∧wt=1)→∃q,QuitsD P q 1 g')
def AtK1 (g:Zg)(w:Zb):Prop:=
 g.status=.running∧∃g',Z6 P false g w=.go g' w #[mk .disable]∧∃m,Goes P false (Ah ty Wg S) DC0 (AtD1 P ty Wg S) m g' w
def AtR0 (g:Zg)(w:Zb):Prop:=
 g.status=.running∧∃g',Z6 P false g w=.go g' w #[mk (.releaseMerge (stA Wg))]∧∃m,Goes P false (Ah ty Wg S) DC0 (AtK1 P ty Wg S) m g' w
end
abbrev FA:=(Nat→Prop)→Zc→Zb→Prop
def AtSend (Pay:FA):B0:=fun S g w=>
 g.status=.running∧∃Bl v z,Z6 P false g w=.comm Bl #[scase Ch v z] true .send w #[]∧Pay S v w∧∃m,Goes P false (Ah ty Wg S) DC0 (AtR0 P ty Wg S) m (YQ Bl Ze) w
section
variable(Anch AM:B0)(S:Nat→Prop)
def AtAcq (g:Zg)(w:Zb):Prop:=
 g.status=.running∧∃g',Z6 P true g w=.go g' w #[mk (.acquire (stA Wg))]∧∃m,Goes P true (Ah ty Wg S) DC0 (Anch S) m g' w
def AtKe (g:Zg)(w:Zb):Prop:=
 g.status=.running∧∃g',Z6 P true g w=.go g' w #[mk .enable]∧∃m,Goes P true (Ah ty Wg S) DC0 (AtAcq P ty Wg Anch S) m g' w
def AtW4 (g:Zg)(w:Zb):Prop:=
 g.status=.running∧(WgAt ty Wg w 0 0→∃g',Z6 P true g w=.go g' w #[rd (stA Wg)]∧∃m,Goes P true (Ah ty Wg S) DC0 (AtKe P ty Wg Anch S) m g' w)
def AtW3 (g:Zg)(w:Zb):Prop:=
 g.status=.running∧g.offers=none∧
  ((∃st,WgAt ty Wg w st 0)→Z6 P true g w=.go {g with status:=.blocked} w #[])∧
  (WgAt ty Wg w 0 1→∃g',Z6 P true g w=.go g' (w.setCell (smA Wg) (.int .u32 0)) (Zam (smA Wg))∧∃m,Goes P true (Ah ty Wg S) DC0 (AtW4 P ty Wg Anch S) m g' (w.setCell (smA Wg) (.int .u32 0)))
def acY (g:Zg)(w:Zb):Prop:=
 g.status=.running∧∃g',Z6 P true g w=.go g' w #[mk (.write (smA Wg))]∧∃m,Goes P true (Ah ty Wg S) DC0 (AtW3 P ty Wg Anch S) m g' w
def AtW2 (vs:Nat)(g:Zg)(w:Zb):Prop:=
 g.status=.running∧∀v:Nat,v<2147483648→WgAt ty Wg w (v*KK) 0→
  (v=vs→∃g',Z6 P true g w=.go g' (w.setCell (stA Wg) (.int .u64 (v*KK+1))) #[rd (stA Wg),wr (stA Wg)]∧∃m,Goes P true (Ah ty Wg S) DC0 (acY P ty Wg Anch S) m g' (w.setCell (stA Wg) (.int .u64 (v*KK+1))))∧
  (v≠vs→∃g',Z6 P true g w=.go g' w #[rd (stA Wg)]∧∃m,Goes P true (Ah ty Wg S) DC0 (AM S) m g' w)
def AtW1 (g:Zg)(w:Zb):Prop:=
 g.status=.running∧∀v:Nat,v<2147483648→WgAt ty Wg w (v*KK) 0→∃g',Z6 P true g w=.go g' w #[rd (stA Wg)]∧
  (v=0→∃m,Goes P true (Ah ty Wg S) DC0 (AtKe P ty Wg Anch S) m g' w)∧(v≠0→∃m,Goes P true (Ah ty Wg S) DC0 (AtW2 P ty Wg Anch AM S v) m g' w)
end
def AtKd (AM:B0):B0:=fun S g w=>
 g.status=.running∧∃g',Z6 P true g w=.go g' w #[mk .disable]∧∃m,Goes P true (Ah ty Wg S) DC0 (AM S) m g' w
section
variable(Pay:FA)(Next:B0)(S:Nat→Prop)
def AtGoS (g:Zg)(w:Zb):Prop:=
 g.status=.running∧∃g' child,Z6 P true g w=.spawn g' child w #[]∧A7 P false ty Wg S (AtSend P ty Wg Ch Pay) S child w∧Next S g' w
def AtKeS (g:Zg)(w:Zb):Prop:=
 g.status=.running∧∃g',Z6 P true g w=.go g' w #[mk .enable]∧∃m,Goes P true (Ah ty Wg S) DC0 (AtGoS P ty Wg Ch Pay Next S) m g' w
def acZ (g:Zg)(w:Zb):Prop:=
 g.status=.running∧∃g',Z6 P true g w=.go g' w #[mk (.read (smA Wg))]∧∃m,Goes P true (Ah ty Wg S) DC0 (AtKeS P ty Wg Ch Pay Next S) m g' w
def AtA1 (g:Zg)(w:Zb):Prop:=
 g.status=.running∧∀v:Nat,v<2147483647→WgAt ty Wg w (v*KK) 0→
  ∃g',Z6 P true g w=.go g' (w.setCell (stA Wg) (.int .u64 ((v+1)*KK))) #[rd (stA Wg),wr (stA Wg)]∧
   (v=0→∃m,Goes P true (Ah ty Wg S) DC0 (acZ P ty Wg Ch Pay Next S) m g' (w.setCell (stA Wg) (.int .u64 ((v+1)*KK))))∧(v≠0→∃m,Goes P true (Ah ty Wg S) DC0 (AtKeS P ty Wg Ch Pay Next S) m g' (w.setCell (stA Wg) (.int .u64 ((v+1)*KK))))
end
def AtKdS (Pay:FA)(Next:B0):B0:=fun S g w=>
 g.status=.running∧∃g',Z6 P true g w=.go g' w #[mk .disable]∧∃m,Goes P true (Ah ty Wg S) DC0 (AtA1 P ty Wg Ch Pay Next S) m g' w
def ui (Pay:Nat→FA)(n:Nat)(AM:B0):Nat→B0
 |0=>fun S g w=>A7 P true ty Wg S (AtKd P ty Wg AM) S g w
 |r+1=>fun S g w=>A7 P true ty Wg S (AtKdS P ty Wg Ch (Pay (n - (r+1))) (ui Pay n AM r)) S g w
end
section
variable(P:Zp)(ty:Zs)(Wg Ch:Nat)
inductive WSit (Pay:FA)(S L:Nat→Prop):Nat→Nat→Nat→Nat→Fuel P ty Wg→Zg→Zb→Prop
 |wk {g:Zg} {w x:Zb} (h:A7 P false ty Wg L (AtSend P ty Wg Ch Pay) S g x) (hr:Ah ty Wg S x w):WSit Pay S L 7 1 0 0 h.fuel g w
 |r0 {X:Fuel P ty Wg} {m:Nat} {g:Zg} {w:Zb}:Goes P false (Ah ty Wg S) DC0 (AtR0 P ty Wg S) m g w→WSit Pay S L 7 0 m 0 X g w
 |k1 {X:Fuel P ty Wg} {m:Nat} {g:Zg} {w:Zb}:Goes P false (Ah ty Wg S) DC0 (AtK1 P ty Wg S) m g w→WSit Pay S L 6 0 m 0 X g w
 |d1 {X:Fuel P ty Wg} {m:Nat} {g:Zg} {w:Zb}:Goes P false (Ah ty Wg S) DC0 (AtD1 P ty Wg S) m g w→WSit Pay S L 5 0 m 1 X g w
 |d2 {X:Fuel P ty Wg} {m:Nat} {g:Zg} {w:Zb}:Goes P false (Ah ty Wg S) DC0 (AtD2 P ty Wg S) m g w→WSit Pay S L 4 0 m 1 X g w
 |d3 {X:Fuel P ty Wg} {m:Nat} {g:Zg} {w:Zb}:Goes P false (Ah ty Wg S) DC0 (AtD3 P ty Wg S) m g w→WSit Pay S L 3 0 m 1 X g w
 |d4 {X:Fuel P ty Wg} {m:Nat} {g:Zg} {w:Zb}:Goes P false (Ah ty Wg S) DC0 (AtD4 P ty Wg) m g w→WSit Pay S L 2 0 m 1 X g w
 |quit {X:Fuel P ty Wg} {q d:Nat} {g:Zg} {w:Zb}:QuitsD P q d g→WSit Pay S L 1 0 q d X g w
section
variable(Pay:Nat→FA)(Anch AM:B0)(S L:Nat→Prop)
inductive CSit:CTag→Nat→Nat→Nat→Fuel P ty Wg→Nat→Zg→Zb→Prop
 |skd {r:Nat} {g:Zg} {w x:Zb} (hr:r<2) (h:A7 P true ty Wg L (AtKdS P ty Wg Ch (Pay (2 - (r+1))) (ui P ty Wg Ch Pay 2 AM r)) S g x) (hw:Ah ty Wg S x w):CSit (.sp r 5) 1 (2 - (r+1)) 0 h.fuel 0 g w
 |sa1 {X:Fuel P ty Wg} {r m:Nat} {g:Zg} {w:Zb}:r<2→Goes P true (Ah ty Wg S) DC0 (AtA1 P ty Wg Ch (Pay (2 - (r+1))) (ui P ty Wg Ch Pay 2 AM r) S) m g w→CSit (.sp r 4) 1 (2 - (r+1)) m X 1 g w
 |ssr {X:Fuel P ty Wg} {r m:Nat} {g:Zg} {w:Zb}:r<2→Goes P true (Ah ty Wg S) DC0 (acZ P ty Wg Ch (Pay (2 - (r+1))) (ui P ty Wg Ch Pay 2 AM r) S) m g w→CSit (.sp r 3) 1 (2 - (r+1)) m X 1 g w
 |ske {X:Fuel P ty Wg} {r m:Nat} {g:Zg} {w:Zb}:r<2→Goes P true (Ah ty Wg S) DC0 (AtKeS P ty Wg Ch (Pay (2 - (r+1))) (ui P ty Wg Ch Pay 2 AM r) S) m g w→CSit (.sp r 3) 0 (2 - (r+1)) m X 1 g w
 |sgo {X:Fuel P ty Wg} {r m:Nat} {g:Zg} {w:Zb}:r<2→Goes P true (Ah ty Wg S) DC0 (AtGoS P ty Wg Ch (Pay (2 - (r+1))) (ui P ty Wg Ch Pay 2 AM r) S) m g w→CSit (.sp r 2) 0 (2 - (r+1)) m X 0 g w
 |kd {g:Zg} {w x:Zb} (h:A7 P true ty Wg L (AtKd P ty Wg AM) S g x) (hw:Ah ty Wg S x w):CSit .kd 0 2 0 h.fuel 0 g w
 |anch {X:Fuel P ty Wg} {m:Nat} {g:Zg} {w:Zb}:Goes P true (Ah ty Wg S) DC0 (AM S) m g w→CSit .anch 0 2 m X 1 g w
 |w1 {X:Fuel P ty Wg} {m:Nat} {g:Zg} {w:Zb}:Goes P true (Ah ty Wg S) DC0 (AtW1 P ty Wg Anch AM S) m g w→CSit .w1 0 2 m X 1 g w
 |w2 {X:Fuel P ty Wg} {vs m:Nat} {g:Zg} {w:Zb}:Goes P true (Ah ty Wg S) DC0 (AtW2 P ty Wg Anch AM S vs) m g w→CSit (.w2 vs) 0 2 m X 1 g w
 |sw {X:Fuel P ty Wg} {m:Nat} {g:Zg} {w:Zb}:Goes P true (Ah ty Wg S) DC0 (acY P ty Wg Anch S) m g w→CSit .w3 1 2 m X 1 g w
 |w3 {X:Fuel P ty Wg} {m:Nat} {g:Zg} {w:Zb}:Goes P true (Ah ty Wg S) DC0 (AtW3 P ty Wg Anch S) m g w→CSit .w3 0 2 (m+1) X 1 g w
 |blk {X:Fuel P ty Wg} {g:Zg} {w:Zb}:(∀w₁,Ah ty Wg S w w₁→AtW3 P ty Wg Anch S g w₁)→CSit .blk 0 2 0 X 1 {g with status:=.blocked} w
 |w4 {X:Fuel P ty Wg} {m:Nat} {g:Zg} {w:Zb}:Goes P true (Ah ty Wg S) DC0 (AtW4 P ty Wg Anch S) m g w→CSit .w4 0 2 m X 1 g w
 |ke {X:Fuel P ty Wg} {m:Nat} {g:Zg} {w:Zb}:Goes P true (Ah ty Wg S) DC0 (AtKe P ty Wg Anch S) m g w→CSit .ke 0 2 m X 1 g w
 |acq {X:Fuel P ty Wg} {m:Nat} {g:Zg} {w:Zb}:Goes P true (Ah ty Wg S) DC0 (AtAcq P ty Wg Anch S) m g w→CSit .acq 0 2 m X 0 g w
 |ret {X:Fuel P ty Wg} {m:Nat} {g:Zg} {w:Zb}:Goes P true (Ah ty Wg S) DC0 (Anch S) m g w→CSit .ret 0 2 m X 0 g w
end
end
section
variable {P:Zp}{ty:Zs}{Wg Ch:Nat}{NV:FA}{Pay:Nat→FA}{Anch AM:B0}{S L:Nat→Prop}{s e m d:Nat}{X:Fuel P ty Wg}{g:Zg}{w w₁:Zb}
theorem Ci:∀a b c,Ah ty Wg S a b→Ah ty Wg S b c→Ah ty Wg S a c:=fun _ _ _ h k=>h.trans k
theorem WSit.rely (h:WSit P ty Wg Ch NV S L s e m d X g w)(hr:Ah ty Wg S w w₁):WSit P ty Wg Ch NV S L s e m d X g w₁:=by
 cases h with
 |wk h k=>exact .wk h (k.trans hr)
 |r0 h=>exact .r0 (zR Ci h hr)
 |k1 h=>exact .k1 (zR Ci h hr)
 |d1 h=>exact .d1 (zR Ci h hr)
 |d2 h=>exact .d2 (zR Ci h hr)
 |d3 h=>exact .d3 (zR Ci h hr)
 |d4 h=>exact .d4 (zR Ci h hr)
 |quit h=>exact .quit h
theorem A7.running {St:B0}{mn:Bool}{Lk:Nat→Prop}(h:A7 P mn ty Wg Lk St S g w)(hs:∀S g w,St S g w→g.status=.running):g.status=.running:=by
 cases h with
 |stop h=>exact hs _ _ _ (h w (Ah.refl w))
 |step h=>exact h
theorem WSit.status (h:WSit P ty Wg Ch NV S L s e m d X g w):g.status=.running∨(g.status=.finished∧s=1):=by
 cases h with
 |wk h _=>exact .inl (h.running fun _ _ _ x=>x.1)
 |r0 h=>exact .inl (zk (fun _ _ x=>x.1) w (Ah.refl w) h)
 |k1 h=>exact .inl (zk (fun _ _ x=>x.1) w (Ah.refl w) h)
 |d1 h=>exact .inl (zk (fun _ _ x=>x.1) w (Ah.refl w) h)
 |d2 h=>exact .inl (zk (fun _ _ x=>x.1) w (Ah.refl w) h)
 |d3 h=>exact .inl (zk (fun _ _ x=>x.1) w (Ah.refl w) h)
 |d4 h=>exact .inl (zk (fun _ _ x=>x.1) w (Ah.refl w) h)
 |quit h=>exact h.status.imp id fun x=>⟨x,rfl⟩
theorem WSit.woken (h:WSit P ty Wg Ch NV S L s e m d X g w)(a a':Zg)(w':Zb):woken P a a' w' g=g:=by
 unfold Go.Conc.woken;split
 ·exact again_running _ (h.status.imp id And.left)
 ·rfl
theorem CSit.rely {tag:CTag}{j:Nat}(h:CSit P ty Wg Ch Pay Anch AM S L tag s j m X d g w)(hr:Ah ty Wg S w w₁):CSit P ty Wg Ch Pay Anch AM S L tag s j m X d g w₁:=by
 cases h with
 |skd hn h k=>exact .skd hn h (k.trans hr)
 |sa1 hn h=>exact .sa1 hn (zR Ci h hr)
 |ssr hn h=>exact .ssr hn (zR Ci h hr)
 |ske hn h=>exact .ske hn (zR Ci h hr)
 |sgo hn h=>exact .sgo hn (zR Ci h hr)
 |kd h k=>exact .kd h (k.trans hr)
 |anch h=>exact .anch (zR Ci h hr)
 |w1 h=>exact .w1 (zR Ci h hr)
 |w2 h=>exact .w2 (zR Ci h hr)
 |sw h=>exact .sw (zR Ci h hr)
 |w3 h=>exact .w3 (zR Ci h hr)
 |blk h=>exact .blk (fun w₂ Ce=>h w₂ (hr.trans Ce))
 |w4 h=>exact .w4 (zR Ci h hr)
 |ke h=>exact .ke (zR Ci h hr)
 |acq h=>exact .acq (zR Ci h hr)
 |ret h=>exact .ret (zR Ci h hr)
theorem CSit.status {tag:CTag}{j:Nat}(Rq:∀S g w,AM S g w→g.status=.running)(hA:∀S g w,Anch S g w→g.status=.running)(h:CSit P ty Wg Ch Pay Anch AM S L tag s j m X d g w):(g.status=.running∧tag≠ .blk)∨(g.status=.blocked∧tag=.blk):=by
 have r:=Ah.refl (ty:=ty) (Wg:=Wg) (S:=S) w;cases h with
 |skd _ h _=>exact .inl ⟨h.running fun _ _ _ x=>x.1,by simp⟩
 |sa1 _ h=>exact .inl ⟨zk (fun _ _ x=>x.1) w r h,by simp⟩
 |ssr _ h=>exact .inl ⟨zk (fun _ _ x=>x.1) w r h,by simp⟩
 |ske _ h=>exact .inl ⟨zk (fun _ _ x=>x.1) w r h,by simp⟩
 |sgo _ h=>exact .inl ⟨zk (fun _ _ x=>x.1) w r h,by simp⟩
 |kd h _=>exact .inl ⟨h.running fun _ _ _ x=>x.1,by simp⟩
 |anch h=>exact .inl ⟨zk (Rq S) w r h,by simp⟩
 |w1 h=>exact .inl ⟨zk (fun _ _ x=>x.1) w r h,by simp⟩
 |w2 h=>exact .inl ⟨zk (fun _ _ x=>x.1) w r h,by simp⟩
 |sw h=>exact .inl ⟨zk (fun _ _ x=>x.1) w r h,by simp⟩
 |w3 h=>exact .inl ⟨zk (fun _ _ x=>x.1) w r h,by simp⟩
 |blk h=>exact .inr ⟨rfl,rfl⟩
 |w4 h=>exact .inl ⟨zk (fun _ _ x=>x.1) w r h,by simp⟩
 |ke h=>exact .inl ⟨zk (fun _ _ x=>x.1) w r h,by simp⟩
 |acq h=>exact .inl ⟨zk (fun _ _ x=>x.1) w r h,by simp⟩
 |ret h=>exact .inl ⟨zk (hA S) w r h,by simp⟩
theorem CSit.wokenBy {tag:CTag}{j:Nat}(Rq:∀S g w,AM S g w→g.status=.running)(hA:∀S g w,Anch S g w→g.status=.running)(h:CSit P ty Wg Ch Pay Anch AM S L tag s j m X d g w)(hr:Ah ty Wg S w w₁)(a a':Zg):
  ∃Cc m',CSit P ty Wg Ch Pay Anch AM S L Cc s j m' X d (woken P a a' w₁ g) w₁∧(Cc=tag∨(tag=.blk∧Cc=.w3))∧(mayWake P a=true→a'.status=.running→Cc≠ .blk):=by
 have h':=h.rely hr;unfold Go.Conc.woken;split
 ·rcases h'.status Rq hA with⟨hs,BI⟩|⟨_,rfl⟩
  ·exact⟨tag,m,by rw[again_running _ (.inl hs)];exact h',.inl rfl,fun _ _=>BI⟩
  ·cases h' with
   |blk hb=>
    rename_i g0;have h3:=hb w₁ (Ah.refl w₁);exact⟨.w3,0+1,by rw[Go.ConcR.again_blocked h3.1 h3.2.1];exact .w3 (ZQ hb),.inr ⟨rfl,rfl⟩,fun _ _=>by simp⟩
 ·rename_i hc
  exact⟨tag,m,h',.inl rfl,fun h1 h2=>absurd (by simp[h1,h2]) hc⟩
end
end Go.Pair
namespace Go.Pair
open Go Go.Conc Go.BK
open Go.ConcN (PermW RelBy WgLive CTag phi pend isOpen isW3 isFin OpenSt AllQuit Mode WD Vc Ssum Fsum cnt sumTo upd upd_same upd_ne get_map_set get_map_set_same Deaf_still)
open Go.ConcR (KK WgAt stA smA rd wr mk DC0 Bk g_of_ofEvents)
structure Am (ty:Zs)(Wg Ch:Nat)(S L:Nat→Prop)(w w':Zb):Prop where
 size:w.heap.size≤w'.heap.size
 still:∀b,b<w.heap.size→¬S b∨L b→b≠Wg→b≠Ch→w'.heap[b]?=w.heap[b]?
 os:w'.os=w.os
 tape:w'.tape=w.tape
 output:w'.output=w.output
 live:WgLive ty Wg w→WgLive ty Wg w'
section
variable {ty:Zs}{Wg Ch:Nat}{S L:Nat→Prop}{w w':Zb}{es:Array ZU}
theorem Am.eK (h:Lb S L w w' es)(hW:¬S Wg)(Az:Wg<w.heap.size):Am ty Wg Ch S L w w':=
 ⟨h.size,fun b hb hx _ _=>h.still b hb hx,h.os,h.tape,h.output,fun⟨st,sm,hl⟩=>⟨st,sm,(h.still Wg Az (.inl hW)).trans hl⟩⟩
end
def lR (Ch:Nat)(j:Nat)(E:Nat→Nat)(vals:Nat→Zc)(w:Zb):Prop:=
 ∃(ord:List Nat) (tm:Bool),ord.Nodup∧(∀i,i∈ord↔(i<j∧E i=0))∧w.heap[Ch]?=some (.chan 2 (ord.map vals).toArray false ord.length 0 tm)
abbrev IA (Wg T₀:Nat)(t:YL)(g r:Nat):Prop:=RelBy (stA Wg) t g r∧T₀≤r∧∀k a,ZaI t k=some a→a.loc.isMemory=true→t.g? k=some g→k≤r∨(LU Wg a.loc∧a.kind=.atomic)
section
variable(P:Zp)(ty:Zs)(Wg Ch:Nat)(Pay:Nat→FA)(K T₀:Nat)(Shun:Loc→Prop)(w₀:Zb)(S₀ L₀:Nat→Prop)
structure Com (j:Nat)(gs:Array Zg)(w:Zb)(t:YL)(D:Nat→WD)(E:Nat→Nat)(X:Nat→Fuel P ty Wg)(H:Je)(q:Nat→Nat)(d0:Nat)(vals:Nat→Zc):Prop where
 size:gs.size=K+j
 pos:1≤K
 wk:∀i,i<j→∃g,gs[K+i]?=some g∧WSit P ty Wg Ch (Pay i) (H.S (i+1)) (H.L (i+1)) (D i).stage (E i) (D i).fuel (D i).deaf (X i) g w
 old:∀i g,0<i→i<K→gs[i]?=some g→QuitsD P (q i) (Deaf t i) g
 ti:TI K Wg Shun H j w.heap.size t
 NW:Apt Wg H j w.heap.size
 norel:∀k,T₀≤k→t.act? k≠some (.mark (.release (stA Wg)))
 told:T₀≤t.size
 deaf0:Deaf t 0=d0
 deafW:∀i,i<j→Deaf t (K+i)=(D i).deaf
 above:∀i,K+j≤i→Deaf t i=0
 rel:∀i,i<j→(D i).stage≤6→∃r,IA Wg T₀ t (K+i) r
 Ib:Wg<w.heap.size
 S1:Ch<w.heap.size
 cw:Ch≠Wg
 NY:∀p,p≤j→¬H.S p Ch
 ch:lR Ch j E vals w
 pay:∀i,i<j→E i=0→Pay i (H.S (i+1)) (vals i) w
 dn:∀b,b<w₀.heap.size→b≠Wg→b≠Ch→(¬S₀ b∨L₀ b)→w.heap[b]?=w₀.heap[b]?
 grown:w₀.heap.size≤w.heap.size
 os:w.os=w₀.os
 tape:w.tape=w₀.tape
 output:w.output=w₀.output
 FB:∀p,p≤j→∀b,H.S p b→S₀ b∨w₀.heap.size≤b
 iq:∀p,p≤j→∀b,L₀ b→H.S p b→S₀ b→H.L p b
 l0:∀b,L₀ b→b<w₀.heap.size
 xh:∀i,i<j→(D i).stage≤6→E i=0
end
section
variable {P:Zp}{ty:Zs}{Wg Ch:Nat}{Pay:Nat→FA}{K T₀:Nat}{Shun:Loc→Prop}{w₀:Zb}{S₀ L₀:Nat→Prop}
 {j:Nat} {gs:Array Zg} {w w':Zb} {t u:YL} {D:Nat→WD} {E:Nat→Nat} {X:Nat→Fuel P ty Wg} {H:Je} {q:Nat→Nat} {d0:Nat} {vals:Nat→Zc}
theorem KR {T₀:Nat}{a:Addr}{t u:YL}(h:∀k,T₀≤k→t.act? k≠some (.mark (.release a)))(hu:∀op∈u,op.act≠ .mark (.release a)):∀k,T₀≤k→(t++u).act? k≠some (.mark (.release a)):=by
 intro i hk hi;obtain⟨op,ho,hoa⟩:=zd.1 hi;rcases Yl ho with⟨_,py⟩|⟨_,hou⟩
 ·exact h i hk (by rw[act?_of py,hoa])
 ·exact hu op hou hoa
theorem MP {T₀:Nat}{t u:YL}(h:T₀≤t.size):T₀≤(t++u).size:=by
 rw[Array.size_append];omega
def IB (ty:Zs)(Wg:Nat)(Pay:Nat→FA):Prop:=∀i S v w w',Pay i S v w→Ah ty Wg S w w'→Pay i S v w'
theorem Com.U7 (h:Com P ty Wg Ch Pay K T₀ Shun w₀ S₀ L₀ j gs w t D E X H q d0 vals){p:Nat}(hp:p≤j)(T:Am ty Wg Ch (H.S p) (H.L p) w w'){p':Nat}(j_:p'≤j)(BI:p'≠p):Ah ty Wg (H.S p') w w':=by
 refine⟨⟨fun b hb=>?_,T.size,T.os⟩,T.live⟩;refine T.still b (h.NW.low p' j_ b hb) ?_ (fun e=>h.NW.wg p' j_ (e▸hb)) (fun e=>h.NY p' j_ (e▸hb));by_cases hx:H.S p b
 ·exact .inr (h.NW.two p p' hp j_ (Ne.symm BI) b hx hb)
 ·exact .inl hx
theorem Com.U8 (h:Com P ty Wg Ch Pay K T₀ Shun w₀ S₀ L₀ j gs w t D E X H q d0 vals){p:Nat}(_hp:p≤j)(D1:w.heap.size≤w'.heap.size):Apt Wg (H.set p (Hr (H.S p) w w') (H.L p)) j w'.heap.size:=by
 refine⟨fun a c ha hc BI b hb GL=>?_,fun a ha hb=>?_,fun a ha b hb=>?_⟩
 ·by_cases e:a=p
  ·subst e
   rw[(AX _ _ _).1]at hb;rw[(Bx (Ne.symm BI) _ _).1]at GL;rw[(AX _ _ _).2];rcases hb with x|⟨x,_⟩
   ·exact h.NW.two a c ha hc BI b x GL
   ·have:=h.NW.low c hc b GL;omega
  ·rw[(Bx e _ _).1]at hb
   rw[(Bx e _ _).2];by_cases e':c=p
   ·subst e'
    rw[(AX _ _ _).1]at GL;rcases GL with x|⟨x,_⟩
    ·exact h.NW.two a c ha hc BI b hb x
    ·have:=h.NW.low a ha b hb;omega
   ·rw[(Bx e' _ _).1]at GL
    exact h.NW.two a c ha hc BI b hb GL
 ·by_cases e:a=p
  ·subst e
   rw[(AX _ _ _).1]at hb;rcases hb with x|⟨x,_⟩
   ·exact h.NW.wg a ha x
   ·have:=h.Ib;omega
  ·rw[(Bx e _ _).1]at hb
   exact h.NW.wg a ha hb
 ·by_cases e:a=p
  ·subst e
   rw[(AX _ _ _).1]at hb;rcases hb with x|⟨_,x⟩
   ·exact Zl (h.NW.low a ha b x) D1
   ·exact x
  ·rw[(Bx e _ _).1]at hb
   exact Zl (h.NW.low a ha b hb) D1
theorem Com.lS (h:Com P ty Wg Ch Pay K T₀ Shun w₀ S₀ L₀ j gs w t D E X H q d0 vals){p:Nat}(hp:p≤j)(D1:w.heap.size≤w'.heap.size)(hg:∀op∈u,op.g=ix K p)(hl:∀op∈u,op.act.low w'.heap.size)
  (ho:∀op∈u,∀x,op.act.touch?=some x→(LU Wg x.loc∧x.kind≠ .plain∧(x.kind=.said→p=0))∨(∃b,blk x.loc=some b∧Hr (H.S p) w w' b∧(x.write=true→¬H.L p b))∨x.loc.isMemory=false):
  TI K Wg Shun (H.set p (Hr (H.S p) w w') (H.L p)) j w'.heap.size (t++u):=by
 refine TI.app (h.ti.grow D1 (fun b hb=>hb.imp id And.left) (fun b x _=>x)) (h.U8 hp D1) hp hg hl fun op hop x hx=>?_;rcases ho op hop x hx with y|⟨b,h1,h2,h3⟩|y
 ·exact .inl y
 ·exact .inr (.inl ⟨b,h1,by rw[(AX _ _ _).1];exact h2,by rw[(AX _ _ _).2];exact h3⟩)
 ·exact .inr (.inr y)
theorem Com.at (h:Com P ty Wg Ch Pay K T₀ Shun w₀ S₀ L₀ j gs w t D E X H q d0 vals)(hP:IB ty Wg Pay)(d:Nat):Com P ty Wg Ch Pay K T₀ Shun w₀ S₀ L₀ j gs (w.at d) t D E X H q d0 vals:=
 ⟨h.size,h.pos,fun i hi=>let⟨g,hg,hs⟩:=h.wk i hi;⟨g,hg,hs.rely (Ah.at w d)⟩,h.old,h.ti,h.NW,h.norel,h.told,h.deaf0,h.deafW,h.above,h.rel,h.Ib,h.S1,h.cw,h.NY,h.ch,
  fun i hi he=>hP i _ _ _ _ (h.pay i hi he) (Ah.at w d),h.dn,h.grown,h.os,h.tape,h.output,h.FB,h.iq,h.l0,h.xh⟩
theorem Com.Rr (h:Com P ty Wg Ch Pay K T₀ Shun w₀ S₀ L₀ j gs w t D E X H q d0 vals){p:Nat}(hp:p≤j)(_hsz:w.heap.size≤w'.heap.size):
  (∀a,a≤j→¬(H.set p (Hr (H.S p) w w') (H.L p)).S a Ch)∧(∀a,a≤j→∀b,(H.set p (Hr (H.S p) w w') (H.L p)).S a b→S₀ b∨w₀.heap.size≤b)∧
  (∀a,a≤j→∀b,L₀ b→(H.set p (Hr (H.S p) w w') (H.L p)).S a b→S₀ b→(H.set p (Hr (H.S p) w w') (H.L p)).L a b):=by
 refine⟨fun a ha hb=>?_,fun a ha b hb=>?_,fun a ha b hl hb h0=>?_⟩
 ·by_cases e:a=p
  ·subst e
   rw[(AX _ _ _).1]at hb;rcases hb with x|⟨x,_⟩
   ·exact h.NY a ha x
   ·have:=h.S1;omega
  ·rw[(Bx e _ _).1]at hb
   exact h.NY a ha hb
 ·by_cases e:a=p
  ·subst e
   rw[(AX _ _ _).1]at hb;rcases hb with x|⟨x,_⟩
   ·exact h.FB a ha b x
   ·exact .inr (Zx h.grown x)
  ·rw[(Bx e _ _).1]at hb
   exact h.FB a ha b hb
 ·by_cases e:a=p
  ·subst e
   rw[(AX _ _ _).1]at hb;rw[(AX _ _ _).2];rcases hb with x|⟨x,y⟩
   ·exact h.iq a ha b hl x h0
   ·have:=h.l0 b hl
    have:=h.grown;omega
  ·rw[(Bx e _ _).1]at hb
   rw[(Bx e _ _).2];exact h.iq a ha b hl hb h0
structure Kk (Wg K:Nat)(H:Je)(p:Nat)(w w':Zb)(u:YL):Prop where
 g:∀op∈u,op.g=ix K p
 low:∀op∈u,op.act.low w'.heap.size
 ok:∀op∈u,∀x,op.act.touch?=some x→(LU Wg x.loc∧x.kind≠ .plain∧(x.kind=.said→p=0))∨(∃b,blk x.loc=some b∧Hr (H.S p) w w' b∧(x.write=true→¬H.L p b))∨x.loc.isMemory=false
 norel:∀op∈u,op.act≠ .mark (.release (stA Wg))
theorem MQ {k:Nat}{a:Touch}(h:ZaI (t++u) k=some a){g:Nat}(hu:∀op∈u,op.g≠g)(hg:(t++u).g? k=some g):ZaI t k=some a∧t.g? k=some g:=by
 obtain⟨x,hx,U6⟩:=touch_of h;rcases Yl hx with⟨hi,lQ⟩|⟨_,xe⟩
 ·exact⟨by rw[touchAt_of lQ];exact U6,by simpa[YY,YH hi]using hg⟩
 ·have:x.g=g:=by simpa[YY,hx]using hg
  exact absurd this (hu x xe)
theorem Com.stepW (h:Com P ty Wg Ch Pay K T₀ Shun w₀ S₀ L₀ j gs w t D E X H q d0 vals)(hP:IB ty Wg Pay){i:Nat}(hi:i<j){gs':Array Zg}{g':Zg}{s' e' m' dd':Nat}{x':Fuel P ty Wg}{vals':Nat→Zc}
  (T:Am ty Wg Ch (H.S (i+1)) (H.L (i+1)) w w') (U:Kk Wg K H (i+1) w w' u)
  (DJ:WSit P ty Wg Ch (Pay i) (Hr (H.S (i+1)) w w') (H.L (i+1)) s' e' m' dd' x' g' w')
  (ad1:Deaf (t++u) (K+i)=dd')
  (hrel:s'≤6→∃r,IA Wg T₀ (t++u) (K+i) r)
  (hz:gs'.size=gs.size) (pE:gs'[K+i]?=some g') (hgo:∀k,0<k→k≠K+i→gs'[k]?=gs[k]?)
  (lT:lR Ch j (upd E i e') vals' w') (hv:∀a,a≠i→vals' a=vals a) (iu:e'=0→Pay i (Hr (H.S (i+1)) w w') (vals' i) w') (he:s'≤6→e'=0):
  Com P ty Wg Ch Pay K T₀ Shun w₀ S₀ L₀ j gs' w' (t++u) (upd D i ⟨s',m',dd'⟩) (upd E i e') (upd X i x') (H.set (i+1) (Hr (H.S (i+1)) w w') (H.L (i+1))) q d0 vals':=by
 have hp:i+1≤j:=hi;have Ff:=h.pos;have D1:=h.size;have hr:∀i',i'<j→i'≠i→Ah ty Wg (H.S (i'+1)) w w':=fun i' Df e=>h.U7 hp T Df (by omega);have ug:∀op∈u,op.g=K+i:=U.g;have hf:=h.Rr (w':=w') hp T.size;refine⟨hz.trans h.size,h.pos,fun i' Df=>?_,fun k x hk hK hx=>?_,h.lS hp T.size U.g U.low U.ok,h.U8 hp T.size,KR h.norel U.norel,MP h.told,by rw[YN t (by omega) _ ug,h.deaf0],fun i' Df=>?_,fun k hk=>by rw[YN t (by omega) _ ug];exact h.above k hk,
  fun i' Df B3=>?_,Zl h.Ib T.size,Zl h.S1 T.size,h.cw,hf.1,lT,fun i' Df kg=>?_,fun b hb h1 h2 h3=>?_,Zx h.grown T.size,T.os.trans h.os,T.tape.trans h.tape,T.output.trans h.output,hf.2.1,hf.2.2,h.l0,fun i' Df B3=>?_⟩
 ·by_cases e:i'=i
  ·subst e
   refine⟨g',pE,?_⟩;rw[(AX _ _ _).1,(AX _ _ _).2,upd_same,upd_same,upd_same];exact DJ
  ·obtain⟨x,hx,hsx⟩:=h.wk i' Df
   refine⟨x,by rw[hgo _ (by omega) (by omega)];exact hx,?_⟩;rw[(Bx (by omega) _ _).1,(Bx (by omega) _ _).2,upd_ne _ _ e,upd_ne _ _ e,upd_ne _ _ e];exact hsx.rely (hr i' Df e)
 ·rw[hgo k hk (by omega)]at hx
  have hq:=h.old k x hk hK hx;rw[YN t (by omega) _ ug];exact hq
 ·by_cases e:i'=i
  ·subst e;rw[upd_same];exact ad1
  ·rw[YN t (by omega) _ ug,h.deafW i' Df,upd_ne _ _ e]
 ·by_cases e:i'=i
  ·subst e;rw[upd_same]at B3;exact hrel B3
  ·rw[upd_ne _ _ e]at B3
   obtain⟨r,hr,xj,hk⟩:=h.rel i' Df B3;refine⟨r,hr.appOther ug (by omega),xj,fun k a ha hm uj=>?_⟩;obtain⟨h1,h2⟩:=MQ ha (fun op hop=>by rw[ug op hop];omega) uj;exact hk k a h1 hm h2
 ·by_cases e:i'=i
  ·subst e
   rw[upd_same]at kg;rw[(AX _ _ _).1];exact iu kg
  ·rw[upd_ne _ _ e]at kg
   rw[(Bx (by omega) _ _).1,hv i' e];exact hP _ _ _ _ _ (h.pay i' Df kg) (hr i' Df e)
 ·rw[T.still b (Zl hb h.grown) ?_ h1 h2]
  ·exact h.dn b hb h1 h2 h3
  ·by_cases hx:H.S (i+1) b
   ·rcases h.FB _ hp b hx with y|y
    ·rcases h3 with z|z
     ·exact absurd y z
     ·exact .inr (h.iq _ hp b z hx y)
    ·omega
   ·exact .inl hx
 ·by_cases e:i'=i
  ·subst e;rw[upd_same]at B3⊢;exact he B3
  ·rw[upd_ne _ _ e]at B3⊢;exact h.xh i' Df B3
theorem lR.Du (h:lR Ch j E vals w)(T:w'.heap[Ch]?=w.heap[Ch]?):lR Ch j E vals w':=by
 obtain⟨ord,tm,h1,h2,h3⟩:=h;exact⟨ord,tm,h1,h2,T.trans h3⟩
theorem Com.step0 (h:Com P ty Wg Ch Pay K T₀ Shun w₀ S₀ L₀ j gs w t D E X H q d0 vals)(hP:IB ty Wg Pay){gs':Array Zg}
  (hz:gs'.size=gs.size) (hgo:∀k,0<k→gs'[k]?=gs[k]?) (T:Am ty Wg Ch (H.S 0) (H.L 0) w w') (U:Kk Wg K H 0 w w' u) (lT:w'.heap[Ch]?=w.heap[Ch]?):
  Com P ty Wg Ch Pay K T₀ Shun w₀ S₀ L₀ j gs' w' (t++u) D E X (H.set 0 (Hr (H.S 0) w w') (H.L 0)) q (Deaf (t++u) 0) vals:=by
 have hp:0≤j:=Zt _;have Ff:=h.pos;have hr:∀i',i'<j→Ah ty Wg (H.S (i'+1)) w w':=fun i' Df=>h.U7 hp T Df (by omega);have ug:∀op∈u,op.g=0:=U.g;have hf:=h.Rr (w':=w') hp T.size;refine⟨hz.trans h.size,h.pos,fun i' Df=>?_,fun k x hk hK hx=>?_,h.lS hp T.size U.g U.low U.ok,h.U8 hp T.size,KR h.norel U.norel,MP h.told,rfl,fun i' Df=>by rw[YN t (by omega) _ ug];exact h.deafW i' Df,fun k hk=>by rw[YN t (by omega) _ ug];exact h.above k hk,
  fun i' Df B3=>?_,Zl h.Ib T.size,Zl h.S1 T.size,h.cw,hf.1,h.ch.Du lT,fun i' Df kg=>?_,fun b hb h1 h2 h3=>?_,Zx h.grown T.size,T.os.trans h.os,T.tape.trans h.tape,T.output.trans h.output,hf.2.1,hf.2.2,h.l0,h.xh⟩
 ·obtain⟨x,hx,hsx⟩:=h.wk i' Df
  refine⟨x,by rw[hgo _ (by omega)];exact hx,?_⟩;rw[(Bx (by omega) _ _).1,(Bx (by omega) _ _).2];exact hsx.rely (hr i' Df)
 ·rw[hgo k hk]at hx
  have hq:=h.old k x hk hK hx;rw[YN t (by omega) _ ug];exact hq
 ·obtain⟨r,hr,xj,hk⟩:=h.rel i' Df B3
  refine⟨r,hr.appOther ug (by omega),xj,fun k a ha hm uj=>?_⟩;obtain⟨h1,h2⟩:=MQ ha (fun op hop=>by rw[ug op hop];omega) uj;exact hk k a h1 hm h2
 ·rw[(Bx (by omega) _ _).1]
  exact hP _ _ _ _ _ (h.pay i' Df kg) (hr i' Df)
 ·rw[T.still b (Zl hb h.grown) ?_ h1 h2]
  ·exact h.dn b hb h1 h2 h3
  ·by_cases hx:H.S 0 b
   ·rcases h.FB _ hp b hx with y|y
    ·rcases h3 with z|z
     ·exact absurd y z
     ·exact .inr (h.iq _ hp b z hx y)
    ·omega
   ·exact .inl hx
theorem Com.ad3 (h:Com P ty Wg Ch Pay K T₀ Shun w₀ S₀ L₀ j gs w t D E X H q d0 vals){k n':Nat}(hk:0<k)(hK:k<K){gs':Array Zg}{g':Zg}(hz:gs'.size=gs.size)(pE:gs'[k]?=some g')(hgo:∀k',0<k'→k'≠k→gs'[k']?=gs[k']?){fn:YT}{pos:String}{es:Array ZU}(hm:∀e∈es,e.mute=true)(hq:QuitsD P n' (zI (Deaf t k) es) g'):
  Com P ty Wg Ch Pay K T₀ Shun w₀ S₀ L₀ j gs' w (t++ZE k fn pos es) D E X H (upd q k n') d0 vals:=by
 have ug:∀op∈ZE k fn pos es,op.g=k:=fun op hop=>by obtain⟨e,_,rfl⟩:=ZJ hop;rfl
 have Ff:=h.pos;have D1:=h.size;refine⟨hz.trans h.size,h.pos,fun i' Df=>?_,fun k' x JS hK' hx=>?_,h.ti.mute (g:=k) ug (fun op hop=>by obtain⟨e,he,rfl⟩:=ZJ hop;exact low_mute (hm e he) _) (fun op hop=>by obtain⟨e,he,rfl⟩:=ZJ hop;exact touch_mute (hm e he)),h.NW,
  KR h.norel (fun op hop hx=>?_),MP h.told,by rw[YN t (by omega) _ ug];exact h.deaf0,fun i' Df=>by rw[YN t (by omega) _ ug];exact h.deafW i' Df,fun k' JS=>by rw[YN t (by omega) _ ug];exact h.above k' JS,
  fun i' Df B3=>?_,h.Ib,h.S1,h.cw,h.NY,h.ch,h.pay,h.dn,h.grown,h.os,h.tape,h.output,h.FB,h.iq,h.l0,h.xh⟩
 ·obtain⟨x,hx,hsx⟩:=h.wk i' Df
  exact⟨x,by rw[hgo _ (by omega) (by omega)];exact hx,hsx⟩
 ·by_cases e:k'=k
  ·subst e
   rw[pE]at hx;cases hx;rw[upd_same,Deaf_own];exact hq
  ·rw[hgo k' JS e]at hx
   have hq:=h.old k' x JS hK' hx;rw[YN t (by omega) _ ug,upd_ne _ _ e];exact hq
 ·obtain⟨e,he,rfl⟩:=ZJ hop
  have h1:=hm e he;obtain⟨loc,wr,sy⟩:=e;cases loc<;>simp_all[Event.mute,ZK]
 ·obtain⟨r,hr,xj,qQ⟩:=h.rel i' Df B3
  refine⟨r,hr.appOther ug (by omega),xj,fun k a ha hm uj=>?_⟩;obtain⟨h1,h2⟩:=MQ ha (fun op hop=>by rw[ug op hop];omega) uj;exact qQ k a h1 hm h2
theorem Com.F7 (h:Com P ty Wg Ch Pay K T₀ Shun w₀ S₀ L₀ j gs w t D E X H q d0 vals)(g g':Zg)(w':Zb)(p:Nat){k:Nat}(hk:0<k)(BI:k≠p):((gs.map (woken P g g' w')).setIfInBounds p g')[k]?=gs[k]? :=by
 rw[get_map_set _ _ _ _ (Ne.symm BI)];cases hx:gs[k]? with
 |none=>rfl
 |some x=>
  have Az:=(Za.1 hx).1;have D1:=h.size;rw[Option.map_some]
  congr 1
  rcases Zae k K with hK|hK
  ·exact woken_quitsD (h.old k x hk hK hx)
  ·obtain⟨y,hy,hsy⟩:=h.wk (k - K) (by omega)
   rw[show K+(k - K)=k by omega,hx]at hy;cases hy;exact hsy.woken _ _ _
theorem Com.spawn (h:Com P ty Wg Ch Pay K T₀ Shun w₀ S₀ L₀ j gs w t D E X H q 0 vals){a' child:Zg}{x y:MemOp}(hx:x.g=0∧x.act=.go (K+j))(hy:y.g=K+j∧y.act=.start)
  (hc:A7 P false ty Wg (H.S 0) (AtSend P ty Wg Ch (Pay j)) (H.S 0) child w):
  Com P ty Wg Ch Pay K T₀ Shun w₀ S₀ L₀ (j+1) ((gs.setIfInBounds 0 a').push child) w (t++ #[x,y]) (upd D j ⟨7,0,0⟩) (upd E j 1) (upd X j hc.fuel) ((H.set (j+1) (H.S 0) (H.S 0)).set 0 (H.S 0) (H.S 0)) q 0 vals:=by
 have hm:∀op∈#[x,y],op=x∨op=y:=by intro op hop;simpa using hop
 have B3:∀op∈#[x,y],op.act≠ .mark .disable∧op.act≠ .mark .enable:=by
  intro op hop;rcases hm op hop with rfl|rfl
  ·rw[hx.2];exact⟨by simp,by simp⟩
  ·rw[hy.2];exact⟨by simp,by simp⟩
 have D1:=h.size;have Ff:=h.pos;have hS:∀p,p≤j+1→(p=0∨p=j+1)∧((H.set (j+1) (H.S 0) (H.S 0)).set 0 (H.S 0) (H.S 0)).S p=H.S 0∧((H.set (j+1) (H.S 0) (H.S 0)).set 0 (H.S 0) (H.S 0)).L p=H.S 0∨
   p≠0∧p≤j∧((H.set (j+1) (H.S 0) (H.S 0)).set 0 (H.S 0) (H.S 0)).S p=H.S p∧((H.set (j+1) (H.S 0) (H.S 0)).set 0 (H.S 0) (H.S 0)).L p=H.L p:=by
  intro p hp;by_cases e0:p=0
  ·subst e0
   exact .inl ⟨.inl rfl,(AX _ _ _).1,(AX _ _ _).2⟩
  ·by_cases e1:p=j+1
   ·subst e1
    exact .inl ⟨.inr rfl,by rw[(Bx e0 _ _).1,(AX _ _ _).1],by rw[(Bx e0 _ _).2,(AX _ _ _).2]⟩
   ·exact .inr ⟨e0,by omega,by rw[(Bx e0 _ _).1,(Bx e1 _ _).1],by rw[(Bx e0 _ _).2,(Bx e1 _ _).2]⟩
 have old:∀ {k:Nat},0<k→k<K+j→((gs.setIfInBounds 0 a').push child)[k]?=gs[k]? :=by
  intro k hk Az;rw[Array.getElem?_push_lt (by simp[D1];omega), ←ZB,Zk (by omega)]
 refine⟨by simp[D1];omega,Ff,fun i hi=>?_,fun k g hk hK hg=>?_,h.ti.fork hx hy h.deaf0 (h.above _ (Zj _)),⟨fun p p' hp j_ BI b hb GL=>?_,fun p hp hb=>?_,fun p hp b hb=>?_⟩,KR h.norel fun op hop=>?_,MP h.told,by rw[Deaf_still t 0 _ B3,h.deaf0],fun i hi=>?_,
  fun k hk=>by rw[Deaf_still t _ _ B3];exact h.above k (by omega),fun i hi hs=>?_,h.Ib,h.S1,h.cw,fun p hp hb=>?_,?_,fun i hi he=>?_,h.dn,h.grown,h.os,h.tape,h.output,fun p hp b hb=>?_,fun p hp b hl hb h0=>?_,h.l0,fun i hi hs=>?_⟩
 ·rcases Zae i j with Az|hge
  ·obtain⟨g,hg,hsg⟩:=h.wk i Az
   refine⟨g,by rw[old (by omega) (by omega)];exact hg,?_⟩;rw[upd_ne _ _ (by omega),upd_ne _ _ (by omega),upd_ne _ _ (by omega)];rcases hS (i+1) (by omega) with⟨h1|h1,_⟩|⟨_,_,h1,h2⟩
   ·omega
   ·omega
   ·rw[h1,h2];exact hsg
  ·obtain rfl:i=j:=by omega
   refine⟨child,?_,?_⟩
   ·rw[show K+i=(gs.setIfInBounds 0 a').size by simp[D1],Array.getElem?_push_size]
   ·rw[upd_same,upd_same,upd_same]
    rcases hS (i+1) (by omega) with⟨_,h1,h2⟩|⟨_,h1,_⟩
    ·rw[h1,h2];exact .wk hc (Ah.refl w)
    ·omega
 ·rw[old hk (by omega)]at hg
  have:=h.old k g hk hK hg;rw[Deaf_still t _ _ B3];exact this
 ·rcases hS p hp with⟨_,h1,h2⟩|⟨h0,hj,h1,h2⟩
  ·rw[h2];rw[h1]at hb;exact hb
  ·rw[h2]
   rw[h1]at hb;rcases hS p' j_ with⟨_,k1,_⟩|⟨_,hj',k1,_⟩
   ·rw[k1]at GL
    exact h.NW.two p 0 hj (Zt _) h0 b hb GL
   ·rw[k1]at GL
    exact h.NW.two p p' hj hj' BI b hb GL
 ·rcases hS p hp with⟨_,h1,_⟩|⟨h0,hj,h1,_⟩
  ·rw[h1]at hb;exact h.NW.wg 0 (Zt _) hb
  ·rw[h1]at hb;exact h.NW.wg p hj hb
 ·rcases hS p hp with⟨_,h1,_⟩|⟨h0,hj,h1,_⟩
  ·rw[h1]at hb;exact h.NW.low 0 (Zt _) b hb
  ·rw[h1]at hb;exact h.NW.low p hj b hb
 ·rcases hm op hop with rfl|rfl
  ·rw[hx.2];simp
  ·rw[hy.2];simp
 ·rw[Deaf_still t _ _ B3]
  rcases Zae i j with Az|hge
  ·rw[h.deafW i Az,upd_ne _ _ (by omega)]
  ·obtain rfl:i=j:=by omega
   rw[upd_same];exact h.above _ (Zj _)
 ·rcases Zae i j with Az|hge
  ·rw[upd_ne _ _ (by omega)]at hs
   obtain⟨r,hr,xj,hk⟩:=h.rel i Az hs;have hng:∀op∈#[x,y],op.g≠K+i:=by
    intro op hop;rcases hm op hop with rfl|rfl
    ·rw[hx.1];omega
    ·rw[hy.1];omega
   refine⟨r,hr.appNot hng,xj,fun k a ha hmm uj=>?_⟩;obtain⟨h1,h2⟩:=MQ ha hng uj;exact hk k a h1 hmm h2
  ·obtain rfl:i=j:=by omega
   rw[upd_same]at hs;simp at hs
 ·rcases hS p hp with⟨_,h1,_⟩|⟨h0,hj,h1,_⟩
  ·rw[h1]at hb;exact h.NY 0 (Zt _) hb
  ·rw[h1]at hb;exact h.NY p hj hb
 ·obtain⟨ord,tm,h1,h2,h3⟩:=h.ch
  refine⟨ord,tm,h1,fun i=>(h2 i).trans ⟨fun⟨k1,k2⟩=>⟨by omega,by rw[upd_ne _ _ (by omega)];exact k2⟩,fun⟨k1,k2⟩=>?_⟩,h3⟩;by_cases e:i=j
  ·subst e;rw[upd_same]at k2;cases k2
  ·rw[upd_ne _ _ e]at k2
   exact⟨by omega,k2⟩
 ·by_cases e:i=j
  ·subst e;rw[upd_same]at he;cases he
  ·rw[upd_ne _ _ e]at he
   rcases hS (i+1) (by omega) with⟨h1|h1,_⟩|⟨_,_,h1,_⟩
   ·omega
   ·omega
   ·rw[h1];exact h.pay i (by omega) he
 ·rcases hS p hp with⟨_,h1,_⟩|⟨h0,hj,h1,_⟩
  ·rw[h1]at hb;exact h.FB 0 (Zt _) b hb
  ·rw[h1]at hb;exact h.FB p hj b hb
 ·rcases hS p hp with⟨_,h1,h2⟩|⟨_,hj,h1,h2⟩
  ·rw[h2];rw[h1]at hb;exact hb
  ·rw[h2];rw[h1]at hb;exact h.iq p hj b hl hb h0
 ·by_cases e:i=j
  ·subst e;rw[upd_same]at hs;simp at hs
  ·rw[upd_ne _ _ e]at hs⊢;exact h.xh i (by omega) hs
end
end Go.Pair
namespace Go.Pair
open Go Go.Conc Go.BK
open Go.ConcN (PermW RelBy WgLive CTag phi pend isOpen isW3 isFin OpenSt AllQuit WD Vc Ssum Fsum cnt sumTo sumTo_upd sumTo_congr upd upd_same upd_ne get_map_set get_map_set_same phi_mono phi_retag)
open Go.ConcR (KK WgAt stA smA rd wr mk DC0 Bk g_of_ofEvents)
section
variable {K Wg T₀:Nat}{t u:YL}{g r:Nat}
theorem IA.other (h:IA Wg T₀ t g r)(hu:∀op∈u,op.g≠g):IA Wg T₀ (t++u) g r:=
 ⟨h.1.appNot hu,h.2.1,fun k a ha hm hg=>by obtain⟨h1,h2⟩:=MQ ha hu hg;exact h.2.2 k a h1 hm h2⟩
theorem IA.book (h:IA Wg T₀ t g r){d:Nat}(ki:Deaf t g=d)(fn:YT)(pos:String){es:Array ZU}(SV:∀e∈es,Bk Wg e)
  (hd:∀j e,es[j]?=some e→(ZK e).touch?=none∨0<zI d (es.extract 0 j)):IA Wg T₀ (t++ZE g fn pos es) g r:=by
 refine⟨h.1.book ki fn pos SV hd,h.2.1,fun k a ha hm hg=>?_⟩;obtain⟨x,hx,U6⟩:=touch_of ha;rcases Yl hx with⟨hi,lQ⟩|⟨_,xe⟩
 ·exact h.2.2 k a (by rw[touchAt_of lQ];exact U6) hm (by simpa[YY,YH hi]using hg)
 ·obtain⟨e,he,rfl⟩:=ZJ xe
  refine .inr ?_;rcases SV e he with h1|h1|⟨ad,w,rfl,hb⟩
  ·simp only[zt h1]at U6;cases U6
  ·simp only[zt h1]at U6;cases U6
  ·simp only[Go.ConcR.ofEvent_cell,zV,ZI]at U6
   subst U6;exact⟨⟨ad,rfl,hb⟩,by simp⟩
def AcqAll (K Wg T₀ j:Nat)(t:YL):Prop:=
 ∃q,t.act? q=some (.mark (.acquire (stA Wg)))∧t.g? q=some 0∧t.heard q∧∀i,i<j→∃r,IA Wg T₀ t (K+i) r∧r<q
theorem AcqAll.app {j:Nat}(h:AcqAll K Wg T₀ j t)(hu:∀i r,i<j→IA Wg T₀ t (K+i) r→IA Wg T₀ (t++u) (K+i) r):AcqAll K Wg T₀ j (t++u):=by
 obtain⟨q,h1,h2,h3,h4⟩:=h;have hq:=lt_of_act? h1;exact⟨q,by rw[act?_old hq];exact h1,by rw[g?_old hq];exact h2,(heard_old hq).2 h3,fun i hi=>let⟨r,hr,xk⟩:=h4 i hi;⟨r,hu i r hi hr,xk⟩⟩
end
abbrev Mu (P:Zp)(ty:Zs)(Wg:Nat):=Nat×(Fuel P ty Wg×(Fuel P ty Wg×(Nat×(Fuel P ty Wg×Nat))))
def IC {P:Zp}{ty:Zs}{Wg:Nat}(a b:Mu P ty Wg):Prop:=
 Prod.Lex (fun x y:Nat=>x<y) (Prod.Lex Fuel.lt (Prod.Lex Fuel.lt (Prod.Lex (fun x y:Nat=>x<y) (Prod.Lex Fuel.lt (fun x y:Nat=>x<y))))) a b
theorem aiV (P:Zp)(ty:Zs)(Wg:Nat):WellFounded (@IC P ty Wg):=
 (Prod.lex Nat.lt_wfRel (Prod.lex ⟨Fuel.lt,Fuel.wf P ty Wg⟩ (Prod.lex ⟨Fuel.lt,Fuel.wf P ty Wg⟩ (Prod.lex Nat.lt_wfRel (Prod.lex ⟨Fuel.lt,Fuel.wf P ty Wg⟩ Nat.lt_wfRel))))).wf
section
variable {P:Zp}{ty:Zs}{Wg:Nat}{N N':Nat}{A A' B B' C C':Fuel P ty Wg}{n n' m m':Nat}
theorem mu1 (h:N'<N):IC (N',A',B',n',C',m') (N,A,B,n,C,m):=ZaP _ _ h
theorem mu2 (h:Fuel.lt A' A):IC (N,A',B',n',C',m') (N,A,B,n,C,m):=zp _ (ZaP _ _ h)
theorem mu3 (h:Fuel.lt B' B):IC (N,A,B',n',C',m') (N,A,B,n,C,m):=zp _ (zp _ (ZaP _ _ h))
theorem mu4 (h:n'<n):IC (N,A,B,n',C',m') (N,A,B,n,C,m):=zp _ (zp _ (zp _ (ZaP _ _ h)))
theorem mu5 (h:Fuel.lt C' C):IC (N,A,B,n,C',m') (N,A,B,n,C,m):=zp _ (zp _ (zp _ (zp _ (ZaP _ _ h))))
theorem mu6 (h:m'<m):IC (N,A,B,n,C,m') (N,A,B,n,C,m):=zp _ (zp _ (zp _ (zp _ (zp _ h))))
end
section
variable(P:Zp)(ty:Zs)(Wg Ch:Nat)(Pay:Nat→FA)(K T₀:Nat)(Shun:Loc→Prop)(w₀:Zb)(S₀ L₀:Nat→Prop)(Anch AM:B0)
def JU (K j:Nat)(D:Nat→WD)(E:Nat→Nat)(X:Nat→Fuel P ty Wg)(q:Nat→Nat)(tag:CTag)(sub:Nat)(X0:Fuel P ty Wg)(f0:Nat):Mu P ty Wg:=
 (phi 2 (Vc j D) tag+sub+Ssum j D+sumTo j E,X 0,X 1,sumTo K q+Fsum j D,X0,f0)
def Inv (μ:Mu P ty Wg)(m:Machine)(t:YL):Prop:=
 ∃(gs:Array Zg) (w:Zb) (sl:Option (Nat×Nat)) (j:Nat) (D:Nat→WD) (E:Nat→Nat) (X:Nat→Fuel P ty Wg) (H:Je) (q:Nat→Nat) (d0:Nat) (vals:Nat→Zc) (tag:CTag) (sub f0:Nat) (X0:Fuel P ty Wg) (a:Zg) (st sm:Int),
  m=Yg gs w sl∧gs[0]?=some a∧CSit P ty Wg Ch Pay Anch AM (H.S 0) (H.L 0) tag sub j f0 X0 d0 a w∧Com P ty Wg Ch Pay K T₀ Shun w₀ S₀ L₀ j gs w t D E X H q d0 vals∧WgAt ty Wg w st sm∧zT j D tag st sm∧
  (tag=.ret→AcqAll K Wg T₀ j t)∧μ=JU P ty Wg K j D E X q tag sub X0 f0
end
section
variable {P:Zp}{ty:Zs}{Wg Ch:Nat}{Pay:Nat→FA}{K T₀:Nat}{Shun:Loc→Prop}{w₀:Zb}{S₀ L₀:Nat→Prop}{Anch AM:B0}
 {j:Nat} {gs gs':Array Zg} {w w':Zb} {t u:YL} {D:Nat→WD} {E:Nat→Nat} {X:Nat→Fuel P ty Wg} {H:Je} {q:Nat→Nat} {d0:Nat} {vals vals':Nat→Zc} {tag:CTag} {sub f0:Nat} {X0:Fuel P ty Wg} {a:Zg} {sl:Option (Nat×Nat)}
theorem CSit.bound {S L:Nat→Prop}(h:CSit P ty Wg Ch Pay Anch AM S L tag sub j f0 X0 d0 a w):j+pend tag≤2∧j≤2:=by
 cases h<;>simp only[pend]<;>(try simp)<;>omega
theorem workerStep (Rq:∀S g w,AM S g w→g.status=.running)(hA:∀S g w,Anch S g w→g.status=.running)
  (hcs:CSit P ty Wg Ch Pay Anch AM (H.S 0) (H.L 0) tag sub j f0 X0 d0 a w)
  {i:Nat} (hi:i<j) {g g':Zg} {s' e' m' dd':Nat} {x':Fuel P ty Wg} {S' L':Nat→Prop} {P4 S2:Int}
  (uk:Ah ty Wg (H.S 0) w w') (h0:gs'[0]?=some (woken P g g' w' a)∨gs'[0]?=some a∧(tag=.blk→¬(mayWake P g=true∧g'.status=.running)))
  (BV:Com P ty Wg Ch Pay K T₀ Shun w₀ S₀ L₀ j gs' w' (t++u) (upd D i ⟨s',m',dd'⟩) (upd E i e') (upd X i x') (H.set (i+1) S' L') q d0 vals') (Da:WgAt ty Wg w' P4 S2)
  (AL:∀Cc,(Cc=tag∨(tag=.blk∧Cc=.w3))→(mayWake P g=true→g'.status=.running→Cc≠ .blk)→zT j (upd D i ⟨s',m',dd'⟩) Cc P4 S2)
  (ID:tag=.ret→AcqAll K Wg T₀ j (t++u))
  (Az:(s'+e'<(D i).stage+E i∧s'≤(D i).stage∧cnt ⟨s',m',dd'⟩≤cnt (D i))∨(s'=(D i).stage∧e'=E i∧m'=(D i).fuel∧Fuel.lt x' (X i))∨(s'=(D i).stage∧e'=E i∧x'=X i∧m'+1=(D i).fuel)):
  ∃Gx,IC Gx (JU P ty Wg K j D E X q tag sub X0 f0)∧Inv P ty Wg Ch Pay K T₀ Shun w₀ S₀ L₀ Anch AM Gx (Yg gs' w' sl) (t++u):=by
 have hj:=hcs.bound.2;obtain⟨a',Cc,f',ha',Kc,cg,xl⟩:∃a' Cc f',gs'[0]?=some a'∧CSit P ty Wg Ch Pay Anch AM (H.S 0) (H.L 0) Cc sub j f' X0 d0 a' w'∧(Cc=tag∨(tag=.blk∧Cc=.w3))∧(mayWake P g=true→g'.status=.running→Cc≠ .blk):=by
  rcases h0 with h0|⟨h0,h1⟩
  ·obtain⟨Cc,f',h2,h3,h4⟩:=hcs.wokenBy Rq hA uk g g'
   exact⟨_,Cc,f',h0,h2,h3,h4⟩
  ·exact⟨a,tag,f0,h0,hcs.rely uk,.inl rfl,fun x y z=>h1 z ⟨x,y⟩⟩
 have e1:=sumTo_upd D (⟨s',m',dd'⟩:WD) cnt hi;have e2:=sumTo_upd D (⟨s',m',dd'⟩:WD) WD.stage hi;have e3:=sumTo_upd D (⟨s',m',dd'⟩:WD) WD.fuel hi;have e4:=sumTo_upd E e' id hi;refine⟨JU P ty Wg K j (upd D i ⟨s',m',dd'⟩) (upd E i e') (upd X i x') q Cc sub X0 f',?_,gs',w',sl,j,_,_,_,_,q,d0,vals',Cc,sub,f',X0,a',P4,S2,rfl,ha',?_,BV,Da,AL Cc cg xl,fun e=>?_,rfl⟩
 ·have ph:=phi_retag 2 (Vc j (upd D i ⟨s',m',dd'⟩)) cg
  unfold JU;rw[ph];simp only[Vc,Ssum,Fsum,id]at*;rcases Az with⟨h1,_,h2⟩|⟨h1,h2,hm,h3⟩|⟨h1,h2,h3,h4⟩
  ·have:=phi_mono 2 (v':=sumTo j fun a=>cnt (upd D i ⟨s',m',dd'⟩ a)) (v:=sumTo j fun a=>cnt (D a)) (by omega) tag
   have e4':(sumTo j fun a=>upd E i e' a)=sumTo j (upd E i e'):=rfl;have lU:(sumTo j fun a=>E a)=sumTo j E:=rfl;rw[e4',lU]at e4;exact mu1 (by omega)
  ·have ec:cnt (⟨s',m',dd'⟩:WD)=cnt (D i):=by simp only[cnt,h1]
   have ev:(sumTo j fun a=>cnt (upd D i ⟨s',m',dd'⟩ a))=sumTo j fun a=>cnt (D a):=by omega
   have Bu:(sumTo j fun a=>(upd D i ⟨s',m',dd'⟩ a).stage)=sumTo j fun a=>(D a).stage:=by omega
   have ee:sumTo j (upd E i e')=sumTo j E:=by
    have e4':(sumTo j fun a=>upd E i e' a)=sumTo j (upd E i e'):=rfl;have lU:(sumTo j fun a=>E a)=sumTo j E:=rfl;rw[e4',lU]at e4;omega
   rw[ev,Bu,ee];rcases Zae i 1 with hi0|hi1
   ·obtain rfl:i=0:=by omega
    refine mu2 ?_;rw[upd_same];exact h3
   ·obtain rfl:i=1:=by omega
    rw[upd_ne _ _ (by omega:(0:Nat)≠1)];refine mu3 ?_;rw[upd_same];exact h3
  ·have ec:cnt (⟨s',m',dd'⟩:WD)=cnt (D i):=by simp only[cnt,h1]
   have ev:(sumTo j fun a=>cnt (upd D i ⟨s',m',dd'⟩ a))=sumTo j fun a=>cnt (D a):=by omega
   have Bu:(sumTo j fun a=>(upd D i ⟨s',m',dd'⟩ a).stage)=sumTo j fun a=>(D a).stage:=by omega
   have ee:sumTo j (upd E i e')=sumTo j E:=by
    have e4':(sumTo j fun a=>upd E i e' a)=sumTo j (upd E i e'):=rfl;have lU:(sumTo j fun a=>E a)=sumTo j E:=rfl;rw[e4',lU]at e4;omega
   have ex:upd X i x'=X:=by
    funext k
    by_cases e:k=i
    ·subst e;rw[upd_same,h3]
    ·rw[upd_ne _ _ e]
   rw[ev,Bu,ee,ex];exact mu4 (by omega)
 ·rw[(Bx (by omega) _ _).1,(Bx (by omega) _ _).2]
  exact Kc
 ·rcases cg with rfl|⟨_,rfl⟩
  ·exact ID e
  ·cases e
theorem callerStep {a':Zg}{Cc:CTag}{U9 f':Nat}{kj:Fuel P ty Wg}{S' L':Nat→Prop}{P4 S2:Int}{d0':Nat}
  (ha':gs'[0]?=some a') (BV:Com P ty Wg Ch Pay K T₀ Shun w₀ S₀ L₀ j gs' w' (t++u) D E X (H.set 0 S' L') q d0' vals)
  (Kc:CSit P ty Wg Ch Pay Anch AM S' L' Cc U9 j f' kj d0' a' w') (Da:WgAt ty Wg w' P4 S2) (AL:zT j D Cc P4 S2)
  (ID:Cc=.ret→AcqAll K Wg T₀ j (t++u))
  (Az:phi 2 (Vc j D) Cc+U9<phi 2 (Vc j D) tag+sub∨(phi 2 (Vc j D) Cc+U9=phi 2 (Vc j D) tag+sub∧(Fuel.lt kj X0∨(kj=X0∧f'<f0)))):
  ∃Gx,IC Gx (JU P ty Wg K j D E X q tag sub X0 f0)∧Inv P ty Wg Ch Pay K T₀ Shun w₀ S₀ L₀ Anch AM Gx (Yg gs' w' sl) (t++u):=by
 refine⟨JU P ty Wg K j D E X q Cc U9 kj f',?_,gs',w',sl,j,D,E,X,_,q,d0',vals,Cc,U9,f',kj,a',P4,S2,rfl,ha',by rw[(AX _ _ _).1,(AX _ _ _).2];exact Kc,BV,Da,AL,ID,rfl⟩;unfold JU;rcases Az with h|⟨h1,h2|⟨rfl,h2⟩⟩
 ·exact mu1 (by omega)
 ·rw[h1];exact mu5 h2
 ·rw[h1];exact mu6 h2
end
end Go.Pair
namespace Go.Pair
open Go Go.Conc Go.BK
theorem partners_nil {gs:Array Zg}(h:∀(i:Nat) g,gs[i]?=some g→g.status≠ .blocked∨g.offers=none)(r:Nat)(send:Bool):partners gs r send=[]:=by
 unfold partners;rw[List.flatMap_eq_nil_iff];rintro⟨g,i⟩ hg;have hm:gs[i]?=some g:=by
  have:=Array.mem_toList_iff.1 hg;rw[Array.mem_zipIdx_iff_getElem?]at this;exact this
 rcases h i g hm with h|h
 ·cases hs:g.status<;>simp_all
 ·cases hs:g.status<;>simp[h]
section
variable {P:Zp}{gs:Array Zg}{w:Zb}{sl:Option (Nat×Nat)}{i:Nat}{g Bl:Zg}{es:Array ZU}{c cap s r:Nat}{buf:Array Zc}{z v:Zc}{tm:Bool}
theorem P5 (hi:gs[i]?=some g)(h:Z6 P (i==0) g w=.comm Bl #[scase c v z] true .send w es)(hc:w.heap[c]?=some (.chan cap buf false s r tm))(ad7:buf.size<cap)
  (hn:∀(k:Nat) x,gs[k]?=some x→x.status≠ .blocked∨x.offers=none):
  runT P (Yg gs w sl) i=(.next (Yg (gs.setIfInBounds i (YQ Bl Ze)) (w.setChan c cap (buf.push v) false (s+1) r tm) sl),
   ZE i g.frame.fn g.frame.place es++ #[{g:=i,fn:=Bl.frame.fn,pos:=Bl.frame.place,act:=.send c s}, {g:=i,fn:=Bl.frame.fn,pos:=Bl.frame.place,act:=.sendDone c s}]):=by
 obtain⟨Az,rfl⟩:=Za.1 hi;have iw:=swapAt_of_lt Az {(default:Zg) with status:=.finished};have hp:partners (gs.set i {(default:Zg) with status:=.finished}) c false=[]:=by
  refine partners_nil (fun k x hk=>?_) _ _;rw[Array.getElem?_set]at hk;split at hk
  ·cases hk;exact .inl (by simp)
  ·exact hn k x hk
 show runT P {world:=w,gs:=gs,rest:= {timers:= #[],alone:=none,slice:=sl}} i=_;unfold runT;simp only[iw,h,GStep.es];simp[communicate,ways,scase,hc,hp,ad7,choose,Sem.run,Question.forced,bind,Sem.bind,pure,Goroutine.finishComm,commResult,YQ,World.setChan,Yg];exact set_setIfInBounds Az _ _
end
end Go.Pair
namespace Go.Pair
open Go Go.Conc Go.BK
open Go.ConcN (PermW RelBy WgLive CTag phi pend isOpen isW3 isFin OpenSt AllQuit WD Vc Ssum Fsum cnt sumTo sumTo_upd sumTo_congr upd upd_same upd_ne phi_mono phi_retag others_uncounted le_sumTo Vc_upd bk_cell deafBehind_idle)
open Go.ConcR (KK WgAt stA smA rd wr mk DC0 Bk g_of_ofEvents)
section
variable {P:Zp}{m:Bool}{ty:Zs}{Wg Ch:Nat}{Lk:Nat→Prop}{Stop:B0}{S L:Nat→Prop}{g:Zg}{w w' x:Zb}{es:Array ZU}{K:Nat}{H:Je}{p:Nat}{fn:YT}{pos:String}
theorem A7.at_ (h:A7 P m ty Wg Lk Stop S g x)(hr:Ah ty Wg S x w):Stop S g w∨(g.status=.running∧∃g' w' es,Z6 P m g w=.go g' w' es∧Lb S Lk w w' es∧∃h':A7 P m ty Wg Lk Stop (Hr S w w') g' w',Fuel.lt h'.fuel h.fuel):=by
 by_cases B3:∀w₂,Ah ty Wg S x w₂→Stop S g w₂
 ·exact .inl (B3 w hr)
 ·have key:A7 P m ty Wg Lk Stop S g x→(g.status=.running∧∃g' w' es,Z6 P m g w=.go g' w' es∧Lb S Lk w w' es∧A7 P m ty Wg Lk Stop (Hr S w w') g' w'):=by
   intro h;cases h with
   |stop h=>exact absurd h B3
   |step hs Gr EC Ix hh k=>exact⟨hs,_,_,_,(hh w hr).1,(hh w hr).2,k w hr⟩
  obtain⟨hs,g',w',es,h1,h2,h3⟩:=key h;exact .inr ⟨hs,g',w',es,h1,h2,h3,rfl,rfl,B3,w,es,hr,h1,rfl⟩
theorem KS {e:ZU}(h:U1 S Lk e):e.loc≠ .mark .disable∧e.loc≠ .mark .enable∧∀a,e.loc≠ .mark (.release a):=by
 obtain⟨loc,wr,sy⟩:=e;unfold U1 at h;cases loc with
 |mark m=>cases m<;>first|exact h.elim|exact⟨by simp,by simp,by simp⟩
 |_=>exact⟨by simp,by simp,by simp⟩
theorem O1 (hG:Lb (H.S p) (H.L p) w w' es)(IE:∀b,H.S p b→b<w.heap.size):Kk Wg K H p w w' (ZE (ix K p) fn pos es):=by
 have Ib:∀b,Hr (H.S p) w w' b→b<w'.heap.size:=fun b hb=>hb.elim (fun x=>Zl (IE b x) hG.size) And.right;refine⟨fun op hop=>by obtain⟨e,_,rfl⟩:=ZJ hop;rfl,fun op hop=>?_,fun op hop x hx=>?_,fun op hop hr=>?_⟩
 all_goals
  obtain⟨e,he,rfl⟩:=ZJ hop;have QO:=hG.evs e he;obtain⟨loc,wr,sy⟩:=e;unfold U1 at QO
 ·cases loc with
  |cell a=>exact Ib _ QO.1
  |obj r=>dsimp only at QO;cases wr<;>cases sy<;>exact Ib _ QO.1
  |mark m=>cases m<;>first|exact QO.elim|trivial
  |output=>trivial
  |_=>exact QO.elim
 ·cases loc with
  |cell a=>
   simp only[ZK,zV,ZI]at hx;subst hx;exact .inr (.inl ⟨a.block,rfl,QO.1,QO.2⟩)
  |obj r=>
   dsimp only at QO;have:x.loc=.obj r∧x.write=wr:=by cases wr<;>cases sy<;>simp[ZK,zV]at hx<;>subst hx<;>exact⟨rfl,rfl⟩
   exact .inr (.inl ⟨r,by rw[this.1];rfl,QO.1,by rw[this.2];exact QO.2⟩)
  |mark m=>cases m<;>first|exact QO.elim|(simp[ZK,zV]at hx)
  |output=>
   simp only[ZK,zV,ZI]at hx;subst hx;exact .inr (.inr rfl)
  |_=>exact QO.elim
 ·cases loc with
  |mark m=>cases m<;>first|exact QO.elim|(simp[ZK]at hr)
  |cell a=>simp[ZK]at hr
  |obj r=>cases wr<;>cases sy<;>simp[ZK]at hr
  |output=>simp[ZK]at hr
  |_=>exact QO.elim
theorem FC (hb:∀e∈es,Bk Wg e)(hW:Wg<w'.heap.size):Kk Wg K H p w w' (ZE (ix K p) fn pos es):=by
 refine⟨fun op hop=>by obtain⟨e,_,rfl⟩:=ZJ hop;rfl,fun op hop=>?_,fun op hop x hx=>?_,fun op hop hr=>?_⟩
 all_goals
  obtain⟨e,he,rfl⟩:=ZJ hop;rcases hb e he with h|h|⟨a,wr,rfl,ha⟩
 ·rw[zt h];trivial
 ·rw[zt h];trivial
 ·show a.block<_
  rw[ha];exact hW
 ·simp only[zt h]at hx;cases hx
 ·simp only[zt h]at hx;cases hx
 ·simp only[Go.ConcR.ofEvent_cell,zV,ZI]at hx
  subst hx;exact .inl ⟨⟨a,rfl,ha⟩,by simp,by simp⟩
 ·simp only[zt h]at hr;cases hr
 ·simp only[zt h]at hr;cases hr
 ·cases hr
theorem HG {Rt:Mark}(IE:(MemAct.mark Rt).low w'.heap.size)(hr:∀a,Rt≠ .release a)(ht:(MemAct.mark Rt).touch?=none∨(p=0∧∃a:Addr,a.block=Wg∧∃wr,(MemAct.mark Rt).touch?=some ⟨.cell a,wr,.said⟩)):
  Kk Wg K H p w w' (ZE (ix K p) fn pos #[mk Rt]):=by
 have e1:ZE (ix K p) fn pos #[mk Rt]= #[{g:=ix K p,fn,pos,act:=.mark Rt}]:=by rw[ofEvents_eq];simp[Go.ConcR.ofEvent_mk]
 rw[e1];refine⟨fun op hop=>?_,fun op hop=>?_,fun op hop x hx=>?_,fun op hop h=>?_⟩<;>(simp only[List.mem_toArray,List.mem_cons,List.not_mem_nil,or_false]at hop;subst hop)
 ·rfl
 ·exact IE
 ·rcases ht with ht|⟨rfl,a,ha,wr,ht⟩
  ·rw[ht]at hx;cases hx
  ·rw[ht]at hx
   cases hx;exact .inl ⟨⟨a,rfl,ha⟩,by simp,fun _=>rfl⟩
 ·cases h
  exact hr _ rfl
theorem Ln (h:Aside Wg w w')(hl:WgLive ty Wg w'):Am ty Wg Ch S L w w':=⟨Nat.le_of_eq h.size.symm,fun b _ _ h1 _=>h.block b h1,h.os,h.tape,h.output,fun _=>hl⟩
theorem Lq (h:Aside Wg w w')(hl:WgLive ty Wg w')(hS:¬S Wg):Ah ty Wg S w w':=⟨⟨fun b hb=>h.block b (fun e=>hS (e▸hb)),Nat.le_of_eq h.size.symm,h.os⟩,fun _=>hl⟩
end
section
variable {P:Zp}{ty:Zs}{Wg Ch:Nat}{Pay:Nat→FA}{K T₀:Nat}{Shun:Loc→Prop}{w₀:Zb}{S₀ L₀:Nat→Prop}{Anch AM:B0}
 {j:Nat} {gs:Array Zg} {w:Zb} {t:YL} {D:Nat→WD} {E:Nat→Nat} {X:Nat→Fuel P ty Wg} {H:Je} {q:Nat→Nat} {d0:Nat} {vals:Nat→Zc} {tag:CTag} {sub f0:Nat} {X0:Fuel P ty Wg} {a:Zg} {sl:Option (Nat×Nat)} {st sm:Int}
theorem U_ (K i:Nat)(hK:1≤K):(K+i==0)=false:=by simp;omega
theorem lV {α:Type}(f:Nat→α)(i:Nat):upd f i (f i)=f:=by
 funext k
 by_cases e:k=i
 ·subst e;exact upd_same _ _ _
 ·exact upd_ne _ _ e
theorem stepWorker (hP:IB ty Wg Pay)(Rq:∀S g w,AM S g w→g.status=.running)(hA:∀S g w,Anch S g w→g.status=.running)
  (ha:gs[0]?=some a) (hcs:CSit P ty Wg Ch Pay Anch AM (H.S 0) (H.L 0) tag sub j f0 X0 d0 a w) (AA:Com P ty Wg Ch Pay K T₀ Shun w₀ S₀ L₀ j gs w t D E X H q d0 vals) (Da:WgAt ty Wg w st sm) (AL:zT j D tag st sm)
  (ID:tag=.ret→AcqAll K Wg T₀ j t) {i:Nat} (hi:i<j) {g:Zg} (hg:gs[K+i]?=some g) (Bs:g.status=.running):
  ∃m₁ ops Gx,runT P (Yg gs w sl) (K+i)=(.next m₁,ops)∧IC Gx (JU P ty Wg K j D E X q tag sub X0 f0)∧Inv P ty Wg Ch Pay K T₀ Shun w₀ S₀ L₀ Anch AM Gx m₁ (t++ops):=by
 obtain⟨AE,eL,hs⟩:=AA.wk i hi;obtain rfl:g=AE:=by rw[hg]at eL;exact Z2 eL
 generalize B3:(D i).stage=s at hs;generalize hfu:(D i).fuel=m at hs;generalize hde:(D i).deaf=dd at hs;generalize kg:E i=e at hs;generalize km:X i=x at hs;have hb:=hcs.bound;have Ff:=AA.pos;have hVj:=ConcN.Vc_le j D;have ki:Deaf t (K+i)=dd:=by rw[AA.deafW i hi,hde]
 have hp:i+1≤j:=hi;have eM:¬H.S (i+1) Wg:=AA.NW.wg _ hp;have hS0:¬H.S 0 Wg:=AA.NW.wg _ (Zt _);have hKi:0<K+i:=by omega
 have LV:K+i<gs.size:=(Za.1 hg).1;have nr:s≠1→tag≠ .ret:=fun h=>AL.not_ret hi (by omega);have lW:∀ {g':Zg} {w':Zb} {es:Array ZU} {s' m' dd':Nat} {P4 S2:Int},Z6 P false g w=.go g' w' es→Aside Wg w w'→WgAt ty Wg w' P4 S2→Kk Wg K H (i+1) w w' (ZE (K+i) g.frame.fn g.frame.place es)→
   WSit P ty Wg Ch (Pay i) (H.S (i+1)) (H.L (i+1)) s' 0 m' dd' (X i) g' w'→zI dd es=dd'→e=0→
   (s'≤6→∃r,IA Wg T₀ (t++ZE (K+i) g.frame.fn g.frame.place es) (K+i) r)→
   (∀Cc,(Cc=tag∨(tag=.blk∧Cc=.w3))→(mayWake P g=true→g'.status=.running→Cc≠ .blk)→zT j (upd D i ⟨s',m',dd'⟩) Cc P4 S2)→(tag=.ret→AcqAll K Wg T₀ j (t++ZE (K+i) g.frame.fn g.frame.place es))→((s'<s∧cnt ⟨s',m',dd'⟩≤cnt (D i))∨(s'=s∧m'+1=m))→
   ∃m₁ ops Gx,runT P (Yg gs w sl) (K+i)=(.next m₁,ops)∧IC Gx (JU P ty Wg K j D E X q tag sub X0 f0)∧Inv P ty Wg Ch Pay K T₀ Shun w₀ S₀ L₀ Anch AM Gx m₁ (t++ops):=by
  intro g' w' es s' m' dd' P4 S2 hgo eN Kl U DJ OZ he0 hrel Gt Xf Az;have JH:WgLive ty Wg w':=⟨_,_,Kl⟩;have hW:Hr (H.S (i+1)) w w'=H.S (i+1):=by rw[Ro _ eN.size,Hc]
  have he:upd E i 0=E:=by rw[←he0, ←kg];exact lV E i
  have hE0:E i=0:=kg.trans he0;have T:Am ty Wg Ch (H.S (i+1)) (H.L (i+1)) w w':=Ln eN JH;have Fl:=runT_crowd_go (P:=P) (sl:=sl) (i:=K+i) hg (by rw[U_ K i Ff];exact hgo);have BV:=AA.stepW hP hi (gs':=(gs.map (woken P g g' w')).setIfInBounds (K+i) g') T U (by rw[hW];exact DJ) (by rw[Deaf_own,ki];exact OZ) hrel (by simp) (ConcN.get_map_set_same _ _ _ LV)
   (fun k h1 h2=>AA.F7 g g' w' _ h1 h2) (by rw[he];exact AA.ch.Du (eN.block Ch AA.cw)) (fun _ _=>rfl) (fun _=>by rw[hW];exact hP _ _ _ _ _ (AA.pay i hi hE0) (Lq eN JH eM)) (fun _=>rfl)
  obtain⟨Gx,h1,h2⟩:=workerStep (sl:=sl) Rq hA hcs hi (g:=g) (g':=g') (Lq eN JH hS0) (.inl (by rw[ConcN.get_map_set _ _ _ _ (by omega),ha];rfl)) BV Kl Gt Xf (by
    rcases Az with⟨a1,a2⟩|⟨a1,a2⟩
    ·exact .inl ⟨by omega,by omega,a2⟩
    ·exact .inr (.inr ⟨by omega,by omega,rfl,by omega⟩))
  exact⟨_,_,Gx,Fl,h1,h2⟩
 have um:∀ {g':Zg} {w':Zb} {es:Array ZU} {s' m' dd':Nat} {P4 S2:Int},Z6 P false g w=.go g' w' es→Aside Wg w w'→WgAt ty Wg w' P4 S2→(∀e∈es,Bk Wg e)→
   (∀jx e,es[jx]?=some e→(ZK e).touch?=none∨0<zI dd (es.extract 0 jx))→WSit P ty Wg Ch (Pay i) (H.S (i+1)) (H.L (i+1)) s' 0 m' dd' (X i) g' w'→zI dd es=dd'→s≤6→
   (∀Cc,(Cc=tag∨(tag=.blk∧Cc=.w3))→(mayWake P g=true→g'.status=.running→Cc≠ .blk)→zT j (upd D i ⟨s',m',dd'⟩) Cc P4 S2)→(tag=.ret→AcqAll K Wg T₀ j (t++ZE (K+i) g.frame.fn g.frame.place es))→((s'<s∧cnt ⟨s',m',dd'⟩≤cnt (D i))∨(s'=s∧m'+1=m))→
   ∃m₁ ops Gx,runT P (Yg gs w sl) (K+i)=(.next m₁,ops)∧IC Gx (JU P ty Wg K j D E X q tag sub X0 f0)∧Inv P ty Wg Ch Pay K T₀ Shun w₀ S₀ L₀ Anch AM Gx m₁ (t++ops):=by
  intro g' w' es s' m' dd' P4 S2 hgo eN Kl FX hd DJ OZ h6 Gt Xf Az;refine lW hgo eN Kl (FC (p:=i+1) (K:=K) FX (by rw[eN.size];exact AA.Ib)) DJ OZ (by rw[←kg];exact AA.xh i hi (by omega)) (fun _=>?_) Gt Xf Az;obtain⟨r,hr⟩:=AA.rel i hi (by omega);exact⟨r,IA.book hr ki _ _ FX hd⟩
 have book:∀ {g':Zg} {w':Zb} {es:Array ZU} {s' m' dd':Nat} {P4 S2:Int},Z6 P false g w=.go g' w' es→Aside Wg w w'→WgAt ty Wg w' P4 S2→(∀e∈es,Bk Wg e)→
   (∀jx e,es[jx]?=some e→(ZK e).touch?=none∨0<zI dd (es.extract 0 jx))→WSit P ty Wg Ch (Pay i) (H.S (i+1)) (H.L (i+1)) s' 0 m' dd' (X i) g' w'→zI dd es=dd'→s≤6→
   zT j (upd D i ⟨s',m',dd'⟩) tag P4 S2→(tag=.ret→AcqAll K Wg T₀ j (t++ZE (K+i) g.frame.fn g.frame.place es))→((s'<s∧cnt ⟨s',m',dd'⟩≤cnt (D i))∨(s'=s∧m'+1=m))→
   ∃m₁ ops Gx,runT P (Yg gs w sl) (K+i)=(.next m₁,ops)∧IC Gx (JU P ty Wg K j D E X q tag sub X0 f0)∧Inv P ty Wg Ch Pay K T₀ Shun w₀ S₀ L₀ Anch AM Gx m₁ (t++ops):=
  fun hgo eN Kl FX hd DJ OZ h6 Gt Xf Az=>um hgo eN Kl FX hd DJ OZ h6 (fun _ ht _=>Gt.retag ht) Xf Az
 have idle:∀ {g':Zg} {m':Nat},Z6 P false g w=.go g' w #[]→WSit P ty Wg Ch (Pay i) (H.S (i+1)) (H.L (i+1)) s 0 m' dd (X i) g' w→m'+1=m→s≤7→e=0→s≠1→
   ∃m₁ ops Gx,runT P (Yg gs w sl) (K+i)=(.next m₁,ops)∧IC Gx (JU P ty Wg K j D E X q tag sub X0 f0)∧Inv P ty Wg Ch Pay K T₀ Shun w₀ S₀ L₀ Anch AM Gx m₁ (t++ops):=by
  intro g' m' hgo DJ hm h6 he0 h1;refine lW hgo (.refl Wg w) Da (FC (p:=i+1) (K:=K) (by simp) AA.Ib) DJ rfl he0 (fun h=>?_) (fun _ ht _=>ConcN.Mode.retag (by have:=AL.same (i:=i) m' dd;rwa[B3]at this) ht) (fun e=>absurd e (AL.not_ret hi (by omega))) (.inr ⟨rfl,hm⟩);obtain⟨r,hr⟩:=AA.rel i hi (by omega);exact⟨r,IA.book hr ki _ _ (by simp) (by simp)⟩
 cases hs with
 |wk h hr=>
  rcases h.at_ hr with⟨_,Bl,v,z,hsd,iu,m₂,hk⟩|⟨_,g',w',es,hgo,hG,h',hf⟩
  ·
   obtain⟨ord,tm,pB,ly,uo⟩:=AA.ch;have hni:i∉ord:=fun hx=>by have:=((ly i).1 hx).2;omega
   have hlen:ord.length<2:=by
    match ord,pB,ly,hni with
    | [],_,_,_=>exact Nat.zero_lt_two
    | [x],_,_,_=>exact Nat.one_lt_two
    |x::y::l,h1,h2,h3=>
     exfalso;have hx:=((h2 x).1 (by simp)).1;have hy:=((h2 y).1 (by simp)).1;have hxy:x≠y:=fun e=>by subst e;simp at h1
     have hxi:x≠i:=fun e=>h3 (by simp[e]);have hyi:y≠i:=fun e=>h3 (by simp[e]);omega
   have iy:∀(k:Nat) x,gs[k]?=some x→x.status≠ .blocked∨x.offers=none:=by
    intro k x hk;have as6:=(Za.1 hk).1;have D1:=AA.size;rcases Yr k with rfl|SK
    ·rw[ha]at hk;cases hk
     rcases hcs.status Rq hA with⟨h1,_⟩|⟨_,rfl⟩
     ·exact .inl (by rw[h1];simp)
     ·cases hcs with
      |blk hb=>exact .inr (hb w (Ah.refl w)).2.1
    ·rcases Zae k K with hkK|hkK
     ·exact .inl (by rcases(AA.old k x SK hkK hk).status with h1|h1<;>rw[h1]<;>simp)
     ·obtain⟨y,hy,hsy⟩:=AA.wk (k - K) (by omega)
      rw[show K+(k - K)=k by omega,hk]at hy;cases hy;exact .inl (by rcases hsy.status with h1|⟨h1,_⟩<;>rw[h1]<;>simp)
   have Fl:=P5 (P:=P) (sl:=sl) (i:=K+i) hg (by rw[U_ K i Ff];exact hsd) uo (by simpa using hlen) iy;generalize pF:w.setChan Ch 2 ((ord.map vals).toArray.push v) false (ord.length+1) 0 tm=w' at Fl;have Ru:w'.heap.size=w.heap.size:=by rw[←pF];simp[World.setChan]
   have P6:∀b,b≠Ch→w'.heap[b]?=w.heap[b]? :=fun b hb=>by rw[←pF];simp[World.setChan,Ne.symm hb]
   have aiX:w'.heap[Ch]?=some (.chan 2 ((ord.map vals).toArray.push v) false (ord.length+1) 0 tm):=by
    have:=AA.S1;rw[←pF];simp[World.setChan,this]
   have FD:∀S:Nat→Prop,¬S Ch→Ah ty Wg S w w':=fun S hS=>⟨⟨fun b hb=>P6 b (fun e=>hS (e▸hb)),Nat.le_of_eq Ru.symm,by rw[←pF];rfl⟩,fun⟨a,b,hl⟩=>⟨a,b,(P6 Wg (Ne.symm AA.cw)).trans hl⟩⟩;have hW:Hr (H.S (i+1)) w w'=H.S (i+1):=by rw[Ro _ Ru,Hc]
   have T:Am ty Wg Ch (H.S (i+1)) (H.L (i+1)) w w':=⟨Nat.le_of_eq Ru.symm,fun b _ _ _ h2=>P6 b h2,by rw[←pF];rfl,by rw[←pF];rfl,by rw[←pF];rfl,(FD (fun _=>False) (fun h=>h)).live⟩;have hu:∀op∈(ZE (K+i) g.frame.fn g.frame.place #[]++ #[{g:=K+i,fn:=Bl.frame.fn,pos:=Bl.frame.place,act:=.send Ch ord.length}, {g:=K+i,fn:=Bl.frame.fn,pos:=Bl.frame.place,act:=.sendDone Ch ord.length}]:YL),op.g=K+i∧(op.act=.send Ch ord.length∨op.act=.sendDone Ch ord.length):=by
    intro op hop;rw[ofEvents_eq]at hop;simp at hop;rcases hop with rfl|rfl
    ·exact⟨rfl,.inl rfl⟩
    ·exact⟨rfl,.inr rfl⟩
   have hut:∀op∈(ZE (K+i) g.frame.fn g.frame.place #[]++ #[{g:=K+i,fn:=Bl.frame.fn,pos:=Bl.frame.place,act:=.send Ch ord.length}, {g:=K+i,fn:=Bl.frame.fn,pos:=Bl.frame.place,act:=.sendDone Ch ord.length}]:YL),op.act.touch?=none:=by
    intro op hop;rcases(hu op hop).2 with h|h<;>rw[h]<;>rfl
   have U:Kk Wg K H (i+1) w w' (ZE (K+i) g.frame.fn g.frame.place #[]++ #[{g:=K+i,fn:=Bl.frame.fn,pos:=Bl.frame.place,act:=.send Ch ord.length}, {g:=K+i,fn:=Bl.frame.fn,pos:=Bl.frame.place,act:=.sendDone Ch ord.length}]:YL):=by
    have:=AA.S1;refine⟨fun op hop=>(hu op hop).1,fun op hop=>?_,fun op hop x hx=>(by rw[hut op hop]at hx;cases hx),fun op hop hx=>?_⟩
    ·rcases(hu op hop).2 with h|h<;>rw[h]<;>(show Ch<_;omega)
    ·rcases(hu op hop).2 with h|h<;>rw[h]at hx<;>cases hx
   have JP:Deaf (t++(ZE (K+i) g.frame.fn g.frame.place #[]++ #[{g:=K+i,fn:=Bl.frame.fn,pos:=Bl.frame.place,act:=.send Ch ord.length}, {g:=K+i,fn:=Bl.frame.fn,pos:=Bl.frame.place,act:=.sendDone Ch ord.length}]:YL)) (K+i)=0:=by
    rw[ConcN.Deaf_still t _ _ fun op hop=>?_]
    ·exact ki
    ·rcases(hu op hop).2 with h|h<;>rw[h]<;>exact⟨by simp,by simp⟩
   have BV:=AA.stepW hP hi (gs':=gs.setIfInBounds (K+i) (YQ Bl Ze)) (x':=X i) (s':=7) (e':=0) (m':=m₂) (dd':=0) (vals':=upd vals i v) T U (by rw[hW];exact .r0 (zR Ci hk (FD _ (AA.NY _ hp)))) JP (fun h=>by omega) (by simp)
    (by simp[LV]) (fun k h1 h2=>by rw[Zk (Ne.symm h2)])
    ⟨ord++ [i],tm,by
     rw[List.nodup_append];refine⟨pB,by simp,fun a ha b hb=>?_⟩;simp at hb;subst hb;exact fun e=>hni (e▸ha),fun k=>by
     rw[Zax,ly k];constructor
     ·rintro(⟨k1,k2⟩|k1)
      ·refine⟨k1,?_⟩
       by_cases e:k=i
       ·subst e;exact upd_same _ _ _
       ·rw[upd_ne _ _ e];exact k2
      ·simp at k1;subst k1
       exact⟨hi,upd_same _ _ _⟩
     ·rintro⟨k1,k2⟩
      by_cases e:k=i
      ·exact .inr (by simp[e])
      ·rw[upd_ne _ _ e]at k2
       exact .inl ⟨k1,k2⟩,by
     rw[aiX];have e1:(ord++ [i]).map (upd vals i v)=ord.map vals++ [v]:=by
      rw[List.map_append,List.map_cons,List.map_nil,upd_same]
      congr 1
      refine List.map_congr_left fun k hk=>?_;exact upd_ne _ _ (fun e=>hni (e▸hk))
     rw[e1];simp⟩
    (fun k hk=>upd_ne _ _ hk) (fun _=>by rw[hW,upd_same];exact hP _ _ _ _ _ iu (FD _ (AA.NY _ hp))) (fun _=>rfl)
   have Kl:WgAt ty Wg w' st sm:=(P6 Wg (Ne.symm AA.cw)).trans Da;have Gt:zT j (upd D i ⟨7,m₂,0⟩) tag st sm:=by have:=AL.same (i:=i) m₂ 0;rwa[B3]at this
   obtain⟨Gx,h1,h2⟩:=workerStep (sl:=sl) Rq hA hcs hi (g:=g) (g':= {g with status:=.blocked}) (FD _ (AA.NY _ (Zt _))) (.inr ⟨by rw[Zk (by omega)];exact ha,fun _ h=>by simp at h⟩) BV Kl (fun _ ht _=>Gt.retag ht) (fun e=>absurd e (nr (by omega)))
    (.inl ⟨by omega,by omega,by simp[cnt,B3]⟩)
   exact⟨_,_,Gx,Fl,h1,h2⟩
  ·
   have IE:=AA.NW.low (i+1) hp;have U:Kk Wg K H (i+1) w w' (ZE (K+i) g.frame.fn g.frame.place es):=O1 hG IE;have T:Am ty Wg Ch (H.S (i+1)) (H.L (i+1)) w w':=Am.eK hG eM AA.Ib;have Fl:=runT_crowd_go (P:=P) (sl:=sl) (i:=K+i) hg (by rw[U_ K i Ff];exact hgo);have OZ:zI 0 es=0:=deafBehind_idle (fun e he=>⟨(KS (hG.evs e he)).1,(KS (hG.evs e he)).2.1⟩) 0;have he1:upd E i 1=E:=by rw[←kg];exact lV E i
   have BV:=AA.stepW hP hi (gs':=(gs.map (woken P g g' w')).setIfInBounds (K+i) g') T U (.wk h' (Ah.refl _)) (by rw[Deaf_own,ki];exact OZ) (fun h=>by omega) (by simp) (ConcN.get_map_set_same _ _ _ LV)
    (fun k h1 h2=>AA.F7 g g' w' _ h1 h2) (vals':=vals) (by rw[he1];exact AA.ch.Du (hG.still Ch AA.S1 (.inl (AA.NY _ hp)))) (fun _ _=>rfl) (fun h=>by omega) (fun h=>by omega)
   have Kl:WgAt ty Wg w' st sm:=(hG.still Wg AA.Ib (.inl eM)).trans Da;have Gt:zT j (upd D i ⟨7,0,0⟩) tag st sm:=by have:=AL.same (i:=i) 0 0;rwa[B3]at this
   obtain⟨Gx,h1,h2⟩:=workerStep (sl:=sl) Rq hA hcs hi (g:=g) (g':=g') (AA.U7 hp T (Zt _) (by omega)) (.inl (by rw[ConcN.get_map_set _ _ _ _ (by omega),ha];rfl)) BV Kl (fun _ ht _=>Gt.retag ht) (fun e=>absurd e (nr (by omega)))
    (.inr (.inl ⟨B3.symm,kg.symm,hfu.symm,by rw[km];exact hf⟩))
   exact⟨_,_,Gx,Fl,h1,h2⟩
 |r0 h=>
  rcases zG h with Bn|⟨m',rfl,Bb⟩
  ·obtain⟨_,g',hgo,m₂,hk⟩:=Bn w (Ah.refl w)
   have pG:=AA.Ib;refine lW hgo (.refl Wg w) Da (HG (p:=i+1) (K:=K) (by exact pG) (by simp) (.inl rfl)) (.k1 hk) rfl rfl (fun _=>?_) (fun _ ht _=>(AL.counted hi (by omega) (.inl rfl) _ _).retag ht) (fun e=>absurd e (nr (by omega))) (.inl ⟨by omega,by simp[cnt,B3]⟩);refine⟨t.size,RelBy.new (by rw[ki]) _ _,AA.told,fun k a ha _ uj=>.inl ?_⟩;obtain⟨x,hx,_⟩:=touch_of ha;have:=lt_size_of_getElem? hx;rw[ofEvents_eq]at this;simp at this;omega
  ·obtain⟨g',w',es,hgo,⟨rfl,rfl⟩,Gu⟩:=Bb w (Ah.refl w)
   exact idle hgo (.r0 Gu) rfl (by omega) rfl (by omega)
 |k1 h=>
  rcases zG h with Bn|⟨m',rfl,Bb⟩
  ·obtain⟨_,g',hgo,m₂,hk⟩:=Bn w (Ah.refl w)
   exact book hgo (.refl Wg w) Da (by intro e he;simp at he;subst he;exact .inl rfl) (by intro jx e he;exact .inl (by have:=zM he;simp at this;subst this;rfl)) (.d1 hk) rfl (by omega)
    (AL.counted hi (by omega) (.inr rfl) _ _) (fun e=>absurd e (nr (by omega))) (.inl ⟨by omega,by simp[cnt,B3]⟩)
  ·obtain⟨g',w',es,hgo,⟨rfl,rfl⟩,Gu⟩:=Bb w (Ah.refl w)
   exact idle hgo (.k1 Gu) rfl (by omega) rfl (by omega)
 |d1 h=>
  rcases zG h with Bn|⟨m',rfl,Bb⟩
  ·obtain⟨_,Fv⟩:=Bn w (Ah.refl w)
   have SM:cnt (D i)=1:=by simp[cnt,B3]
   have hV1:1≤Vc j D:=by have:=le_sumTo (f:=fun x=>cnt (D x)) hi;simp only[Vc];omega
   have bk2:∀e∈#[rd (stA Wg),wr (stA Wg)],Bk Wg e:=by intro e he;simp at he;rcases he with rfl|rfl<;>exact bk_cell _ _ rfl
   have df2:∀jx e,(#[rd (stA Wg),wr (stA Wg)]:Array ZU)[jx]?=some e→(ZK e).touch?=none∨0<zI 1 ((#[rd (stA Wg),wr (stA Wg)]:Array ZU).extract 0 jx):=by
    intro jx e he
    match jx,he with
    |0,_=>exact .inr (by simp[zI])
    |1,_=>exact .inr (by simp[zI,rd])
    |jx+2,he=>simp at he
   have hq0:∀q,cnt (⟨1,q,1⟩:WD)=0:=fun _=>rfl;have opq:∀q,OpenSt j D→OpenSt j (upd D i ⟨1,q,1⟩):=fun q h a ha=>by
    by_cases e:a=i
    ·subst e;rw[upd_same];simp
    ·rw[upd_ne D _ e];exact h a ha
   cases AL with
   |opn h1 h2 h3=>
    obtain⟨v,hv⟩:∃v,Vc j D+pend tag=v+1:=⟨Vc j D+pend tag - 1,by omega⟩;rw[hv]at Da;have xm:WgAt ty Wg w (((v:Nat)+1)*KK+((0:Nat):Int)) 0:=by simpa using Da
    obtain⟨g',hgo,_,hq⟩:=Fv v 0 (by omega) (by omega) xm;obtain⟨q,hq⟩:=hq (by omega);have gM:Vc j (upd D i ⟨1,q,1⟩)+pend tag=v:=by have:=Vc_upd D (⟨1,q,1⟩:WD) hi;have:=hq0 q;omega
    refine book hgo (YR w (stA Wg) _) (Da.setSt _) bk2 df2 (.quit hq) rfl (by omega) ?_ (fun e=>absurd e (nr (by omega))) (.inl ⟨by omega,by simp[cnt]⟩);have e:((v:Nat):Int)*KK+((0:Nat):Int)=((Vc j (upd D i ⟨1,q,1⟩)+pend tag:Nat):Int)*KK:=by rw[gM];simp
    rw[e];exact .opn h1 (opq q h2) (fun vs ev=>by have:=h3 vs ev;omega)
   |reg h1 h2 h3=>
    obtain⟨v,hv⟩:∃v,Vc j D=v+1:=⟨Vc j D - 1,by omega⟩;rw[hv]at Da;have hp:pend tag=0:=by cases tag<;>first|rfl|exact h1.elim
    have xm:WgAt ty Wg w (((v:Nat)+1)*KK+((1:Nat):Int)) 0:=by simpa using Da
    obtain⟨g',hgo,hl,hq⟩:=Fv v 1 (by omega) (by omega) xm;by_cases Wb:v=0
    ·subst Wb
     obtain⟨m₂,hk⟩:=hl ⟨rfl,rfl⟩;refine book hgo (YR w (stA Wg) _) (Da.setSt _) bk2 df2 (.d2 hk) rfl (by omega) ?_ (fun e=>absurd e (nr (by omega))) (.inl ⟨by omega,by simp[cnt]⟩);have P6:∀a,a<j→a≠i→(D a).stage=1:=fun a ha e=>by
      have c0:=others_uncounted hi hv SM a ha e;have:=h2 a ha;simp only[cnt]at c0;split at c0<;>omega
     have:=ConcN.Mode.last (j:=j) (D:=upd D i ⟨4,m₂,1⟩) (tag:=tag) i h1 hi (by rw[upd_same];simp) (fun a ha e=>by rw[upd_ne D _ e];exact P6 a ha e);rw[upd_same]at this;simpa using this
    ·obtain⟨q,hq⟩:=hq (by omega)
     have gM:Vc j (upd D i ⟨1,q,1⟩)=v:=by have:=Vc_upd D (⟨1,q,1⟩:WD) hi;have:=hq0 q;omega
     refine book hgo (YR w (stA Wg) _) (Da.setSt _) bk2 df2 (.quit hq) rfl (by omega) ?_ (fun e=>absurd e (nr (by omega))) (.inl ⟨by omega,by simp[cnt]⟩);have e:((v:Nat):Int)*KK+((1:Nat):Int)=((Vc j (upd D i ⟨1,q,1⟩):Nat):Int)*KK+1:=by rw[gM];simp
     rw[e];exact .reg h1 (opq q h2) (by omega)
   |last L _ h2 h3 h4=>
    by_cases e:i=L
    ·subst e;omega
    ·have:=h4 i hi e;omega
   |sema h2=>have:=h2 i hi;omega
   |fin _ h2=>have:=h2 i hi;omega
  ·obtain⟨g',w',es,hgo,⟨rfl,rfl⟩,Gu⟩:=Bb w (Ah.refl w)
   exact idle hgo (.d1 Gu) rfl (by omega) rfl (by omega)
 |d2 h=>
  rcases zG h with Bn|⟨m',rfl,Bb⟩
  ·obtain⟨_,hx⟩:=Bn w (Ah.refl w)
   obtain⟨Hd,P6,rfl,rfl⟩:=AL.isLast hi (by omega);simp only[B3]at Da;obtain⟨g',hgo,m₂,hk⟩:=hx (by simpa using Da);refine book hgo (.refl Wg w) Da (by intro e he;simp at he;subst he;exact bk_cell _ _ rfl) (by intro jx e he;match jx,he with|0,_=>exact .inr (by simp[zI])|jx+1,he=>simp at he) (.d3 hk) rfl (by omega) ?_ (fun e=>absurd e (nr (by omega))) (.inl ⟨by omega,by simp[cnt]⟩);have:=ConcN.Mode.last (j:=j) (D:=upd D i ⟨3,m₂,1⟩) (tag:=tag) i Hd hi (by rw[upd_same];simp) (fun a ha e=>by rw[upd_ne D _ e];exact P6 a ha e);rw[upd_same]at this;simpa using this
  ·obtain⟨g',w',es,hgo,⟨rfl,rfl⟩,Gu⟩:=Bb w (Ah.refl w)
   exact idle hgo (.d2 Gu) rfl (by omega) rfl (by omega)
 |d3 h=>
  rcases zG h with Bn|⟨m',rfl,Bb⟩
  ·obtain⟨_,hx⟩:=Bn w (Ah.refl w)
   obtain⟨Hd,P6,rfl,rfl⟩:=AL.isLast hi (by omega);simp only[B3]at Da;obtain⟨g',hgo,m₂,hk⟩:=hx (by simpa using Da);refine book hgo (YR w (stA Wg) _) (Da.setSt 0) (by intro e he;simp at he;subst he;exact bk_cell _ _ rfl) (by intro jx e he;match jx,he with|0,_=>exact .inr (by simp[zI])|jx+1,he=>simp at he) (.d4 hk) rfl (by omega) ?_ (fun e=>absurd e (nr (by omega))) (.inl ⟨by omega,by simp[cnt]⟩);have:=ConcN.Mode.last (j:=j) (D:=upd D i ⟨2,m₂,1⟩) (tag:=tag) i Hd hi (by rw[upd_same];simp) (fun a ha e=>by rw[upd_ne D _ e];exact P6 a ha e);rw[upd_same]at this;simpa using this
  ·obtain⟨g',w',es,hgo,⟨rfl,rfl⟩,Gu⟩:=Bb w (Ah.refl w)
   exact idle hgo (.d3 Gu) rfl (by omega) rfl (by omega)
 |d4 h=>
  rcases zG h with Bn|⟨m',rfl,Bb⟩
  ·obtain⟨_,hmw,hx⟩:=Bn w (Ah.refl w)
   obtain⟨Hd,P6,rfl,rfl⟩:=AL.isLast hi (by omega);simp only[B3]at Da;obtain⟨g',hgo,q,hq⟩:=hx (by simpa using Da);have TR:g'.status=.running:=by
    cases q with
    |zero=>exact absurd hq.2 (by decide)
    |succ q=>exact hq.elim (fun x=>absurd x.2 (by decide)) (fun x=>x.1)
   refine um hgo (YR w (smA Wg) _) (Da.setSm 1) (es:=Zam (smA Wg)) ?_ ?_ (.quit hq) (by simp[zI,Zam]) (by omega) ?_ (fun e=>absurd e (nr (by omega))) (.inl ⟨by omega,by simp[cnt]⟩)
   ·intro e he
    simp[Zam]at he;rcases he with rfl|rfl|rfl|rfl
    ·exact .inl rfl
    ·exact bk_cell _ _ rfl
    ·exact bk_cell _ _ rfl
    ·exact .inr (.inl rfl)
   ·intro jx e he
    match jx,he with
    |0,he=>simp[Zam]at he;subst he;exact .inl rfl
    |1,_=>exact .inr (by simp[zI,Zam])
    |2,_=>exact .inr (by simp[zI,Zam])
    |3,he=>simp[Zam]at he;subst he;exact .inl rfl
    |jx+4,he=>simp[Zam]at he
   ·intro Cc ht hw
    have hnb:=hw hmw TR;have e3:Cc=.w3:=by
     rcases ht with rfl|⟨_,rfl⟩
     ·cases Cc<;>first|rfl|exact Hd.elim|exact absurd rfl hnb
     ·rfl
    subst e3;simp only[if_true];exact .sema fun a ha=>by
     by_cases e:a=i
     ·subst e;rw[upd_same]
     ·rw[upd_ne D _ e];exact P6 a ha e
  ·obtain⟨g',w',es,hgo,⟨rfl,rfl⟩,Gu⟩:=Bb w (Ah.refl w)
   exact idle hgo (.d4 Gu) rfl (by omega) rfl (by omega)
 |quit h=>
  cases m with
  |zero=>rw[h.1]at Bs;cases Bs
  |succ q=>
   rcases h with⟨hf,_⟩|⟨_,g',es,uq,Bb,hq⟩
   ·rw[hf]at Bs;cases Bs
   ·have FX:∀e∈es,Bk Wg e:=fun e he=>Go.ConcR.bk_of_mute (uq e he)
    have Kh:∀jx e,es[jx]?=some e→(ZK e).touch?=none∨0<zI dd (es.extract 0 jx):=fun jx e he=>.inl (touch_mute (uq e (zM he)));refine book (Bb w) (.refl Wg w) Da FX Kh (.quit hq) rfl (by omega) (by have:=AL.same (i:=i) q (zI dd es);rwa[B3]at this) (fun e=>(ID e).app fun i' r Df hr=>?_) (.inr ⟨rfl,rfl⟩);by_cases e':i'=i
    ·subst e';exact IA.book hr ki _ _ FX Kh
    ·exact IA.other hr fun op hop=>by
      obtain⟨e,_,rfl⟩:=ZJ hop;show K+i≠K+i';omega
end
end Go.Pair
namespace Go.Pair
open Go Go.Conc Go.BK
open Go.ConcN (PermW RelBy WgLive CTag phi pend isOpen isW3 isFin OpenSt AllQuit WD Vc Ssum Fsum cnt sumTo sumTo_upd sumTo_congr sumTo_upd_out upd upd_same upd_ne phi_mono phi_retag allQuit_of bk_cell bk_dis bk_en bk_rd bk_rw bk_sem)
open Go.ConcR (KK WgAt stA smA rd wr mk DC0 Bk g_of_ofEvents)
section
variable(P:Zp)(ty:Zs)(Wg Ch:Nat)(Pay:Nat→FA)(K T₀:Nat)(Shun:Loc→Prop)(w₀:Zb)(S₀ L₀:Nat→Prop)(Anch AM:B0)
def Fin (m:Machine)(t:YL):Prop:=
 ∃(gs:Array Zg) (w:Zb) (sl:Option (Nat×Nat)) (D:Nat→WD) (E:Nat→Nat) (X:Nat→Fuel P ty Wg) (H:Je) (q:Nat→Nat) (vals:Nat→Zc) (a:Zg),
  m=Yg gs w sl∧gs[0]?=some a∧Anch (H.S 0) a w∧Com P ty Wg Ch Pay K T₀ Shun w₀ S₀ L₀ 2 gs w t D E X H q 0 vals∧WgAt ty Wg w 0 0∧AllQuit 2 D∧AcqAll K Wg T₀ 2 t
end
section
variable {P:Zp}{ty:Zs}{Wg Ch:Nat}{Pay:Nat→FA}{K T₀:Nat}{Shun:Loc→Prop}{w₀:Zb}{S₀ L₀:Nat→Prop}{Anch AM:B0}
 {j:Nat} {gs:Array Zg} {w:Zb} {t:YL} {D:Nat→WD} {E:Nat→Nat} {X:Nat→Fuel P ty Wg} {H:Je} {q:Nat→Nat} {d0:Nat} {vals:Nat→Zc} {tag:CTag} {sub f0:Nat} {X0:Fuel P ty Wg} {a:Zg} {sl:Option (Nat×Nat)} {st sm:Int}
theorem bookC (hP:IB ty Wg Pay)(ha:gs[0]?=some a)(AA:Com P ty Wg Ch Pay K T₀ Shun w₀ S₀ L₀ j gs w t D E X H q d0 vals)
  {a':Zg} {w':Zb} {es:Array ZU} {Cc:CTag} {U9 f':Nat} {kj:Fuel P ty Wg} {P4 S2:Int} (hgo:Z6 P true a w=.go a' w' es) (eN:Aside Wg w w') (Kl:WgAt ty Wg w' P4 S2)
  (U:Kk Wg K H 0 w w' (ZE 0 a.frame.fn a.frame.place es)) (Kc:CSit P ty Wg Ch Pay Anch AM (H.S 0) (H.L 0) Cc U9 j f' kj (zI d0 es) a' w') (AL:zT j D Cc P4 S2)
  (ID:Cc=.ret→AcqAll K Wg T₀ j (t++ZE 0 a.frame.fn a.frame.place es))
  (Az:phi 2 (Vc j D) Cc+U9<phi 2 (Vc j D) tag+sub∨(phi 2 (Vc j D) Cc+U9=phi 2 (Vc j D) tag+sub∧(Fuel.lt kj X0∨(kj=X0∧f'<f0)))):
  ∃m₁ ops Gx,runT P (Yg gs w sl) 0=(.next m₁,ops)∧IC Gx (JU P ty Wg K j D E X q tag sub X0 f0)∧Inv P ty Wg Ch Pay K T₀ Shun w₀ S₀ L₀ Anch AM Gx m₁ (t++ops):=by
 have JH:WgLive ty Wg w':=⟨_,_,Kl⟩;have hW:Hr (H.S 0) w w'=H.S 0:=by rw[Ro _ eN.size,Hc]
 have T:Am ty Wg Ch (H.S 0) (H.L 0) w w':=Ln eN JH;have Fl:=runT_crowd_go (P:=P) (sl:=sl) (i:=0) ha (by simpa using hgo);have LV:0<gs.size:=(Za.1 ha).1;have BV:=AA.step0 hP (gs':=(gs.map (woken P a a' w')).setIfInBounds 0 a') (by simp) (fun k hk=>AA.F7 a a' w' 0 hk (by omega)) T U (eN.block Ch AA.cw);rw[Deaf_own,AA.deaf0]at BV;obtain⟨Gx,h1,h2⟩:=callerStep (sl:=sl) (tag:=tag) (sub:=sub) (X0:=X0) (f0:=f0) (a':=a') (by simp[LV]) BV (by rw[hW];exact Kc) Kl AL ID Az;exact⟨_,_,Gx,Fl,h1,h2⟩
theorem idleC (hP:IB ty Wg Pay)(ha:gs[0]?=some a)(AA:Com P ty Wg Ch Pay K T₀ Shun w₀ S₀ L₀ j gs w t D E X H q d0 vals)(Da:WgAt ty Wg w st sm)(AL:zT j D tag st sm)(ID:tag=.ret→AcqAll K Wg T₀ j t)
  {a':Zg} {f':Nat} (hgo:Z6 P true a w=.go a' w #[]) (Kc:CSit P ty Wg Ch Pay Anch AM (H.S 0) (H.L 0) tag sub j f' X0 d0 a' w) (Az:f'<f0):
  ∃m₁ ops Gx,runT P (Yg gs w sl) 0=(.next m₁,ops)∧IC Gx (JU P ty Wg K j D E X q tag sub X0 f0)∧Inv P ty Wg Ch Pay K T₀ Shun w₀ S₀ L₀ Anch AM Gx m₁ (t++ops):=
 bookC hP ha AA hgo (.refl Wg w) Da (FC (p:=0) (K:=K) (by simp) AA.Ib) Kc AL (fun e=>(ID e).app fun i r _ hr=>IA.other hr fun op hop=>by
  obtain⟨e,he,_⟩:=ZJ hop;simp at he) (.inr ⟨rfl,.inr ⟨rfl,Az⟩⟩)
theorem ur (hP:IB ty Wg Pay)(ha:gs[0]?=some a)(AA:Com P ty Wg Ch Pay K T₀ Shun w₀ S₀ L₀ j gs w t D E X H q 0 vals)(Da:WgAt ty Wg w st sm)(AL:zT j D tag st sm)(BI:tag≠ .ret)
  {a':Zg} {w':Zb} {es:Array ZU} {kj:Fuel P ty Wg} (hgo:Z6 P true a w=.go a' w' es) (hG:Lb (H.S 0) (H.L 0) w w' es)
  (Kc:CSit P ty Wg Ch Pay Anch AM (Hr (H.S 0) w w') (H.L 0) tag sub j 0 kj 0 a' w') (Az:Fuel.lt kj X0):
  ∃m₁ ops Gx,runT P (Yg gs w sl) 0=(.next m₁,ops)∧IC Gx (JU P ty Wg K j D E X q tag sub X0 f0)∧Inv P ty Wg Ch Pay K T₀ Shun w₀ S₀ L₀ Anch AM Gx m₁ (t++ops):=by
 have hz:(0:Nat)≤j:=Zt _;have eM:=AA.NW.wg 0 hz;have U:Kk Wg K H 0 w w' (ZE 0 a.frame.fn a.frame.place es):=O1 hG (AA.NW.low 0 hz);have T:Am ty Wg Ch (H.S 0) (H.L 0) w w':=Am.eK hG eM AA.Ib;have Fl:=runT_crowd_go (P:=P) (sl:=sl) (i:=0) ha (by simpa using hgo);have LV:0<gs.size:=(Za.1 ha).1;have BV:=AA.step0 hP (gs':=(gs.map (woken P a a' w')).setIfInBounds 0 a') (by simp) (fun k hk=>AA.F7 a a' w' 0 hk (by omega)) T U (hG.still Ch AA.S1 (.inl (AA.NY 0 hz)));rw[Deaf_own,AA.deaf0,ConcN.deafBehind_idle (fun e he=>⟨(KS (hG.evs e he)).1,(KS (hG.evs e he)).2.1⟩)]at BV;obtain⟨Gx,h1,h2⟩:=callerStep (sl:=sl) (tag:=tag) (sub:=sub) (X0:=X0) (f0:=f0) (a':=a') (by simp[LV]) BV Kc ((hG.still Wg AA.Ib (.inl eM)).trans Da) AL (fun e=>absurd e BI) (.inr ⟨rfl,.inl Az⟩);exact⟨_,_,Gx,Fl,h1,h2⟩
theorem w1Step (hP:IB ty Wg Pay)(ha:gs[0]?=some a)(AA:Com P ty Wg Ch Pay K T₀ Shun w₀ S₀ L₀ 2 gs w t D E X H q 1 vals)(Da:WgAt ty Wg w st sm)(AL:zT 2 D .w1 st sm){m:Nat}
  (h:Goes P true (Ah ty Wg (H.S 0)) DC0 (AtW1 P ty Wg Anch AM (H.S 0)) m a w) (hb:phi 2 (Vc 2 D) .w1<phi 2 (Vc 2 D) tag+sub∨(tag=.w1∧sub=0∧f0=m)):
  ∃m₁ ops Gx,runT P (Yg gs w sl) 0=(.next m₁,ops)∧IC Gx (JU P ty Wg K 2 D E X q tag sub X0 f0)∧Inv P ty Wg Ch Pay K T₀ Shun w₀ S₀ L₀ Anch AM Gx m₁ (t++ops):=by
 have hVj:=ConcN.Vc_le 2 D;have GL:phi 2 (Vc 2 D) .w1≤phi 2 (Vc 2 D) tag+sub:=by
  rcases hb with h|⟨rfl,rfl,_⟩<;>omega
 rcases zG h with Bn|⟨m',rfl,Bb⟩
 ·obtain⟨_,Fv⟩:=Bn w (Ah.refl w)
  obtain⟨ho,rfl,rfl,_⟩:=AL.open_inv trivial;obtain⟨a',hgo,h0,h1⟩:=Fv (Vc 2 D) (by omega) (by simpa[pend]using Da);by_cases e:Vc 2 D=0
  ·obtain⟨m₂,hk⟩:=h0 e
   refine bookC hP ha AA hgo (.refl Wg w) Da (FC (p:=0) (K:=K) bk_rd AA.Ib) (.ke (X:=X0) hk) ?_ (by simp) (.inl (by simp only[phi]at GL⊢;omega));have:((Vc 2 D+pend CTag.w1:Nat):Int)*KK=0:=by rw[e];simp[pend]
   rw[this];exact .fin trivial (allQuit_of ho e)
  ·obtain⟨m₂,hk⟩:=h1 e
   exact bookC hP ha AA hgo (.refl Wg w) Da (FC (p:=0) (K:=K) bk_rd AA.Ib) (.w2 (X:=X0) hk) (AL.reopen trivial trivial rfl (fun vs ev=>by cases ev;omega)) (by simp) (.inl (by simp only[phi]at GL⊢;omega))
 ·obtain⟨a',w',es,hgo,⟨rfl,rfl⟩,Gu⟩:=Bb w (Ah.refl w)
  refine bookC hP ha AA hgo (.refl Wg _) Da (FC (p:=0) (K:=K) (by simp) AA.Ib) (.w1 (X:=X0) Gu) AL (by simp) ?_;rcases hb with h|⟨rfl,rfl,rfl⟩
  ·exact .inl (by omega)
  ·exact .inr ⟨rfl,.inr ⟨rfl,by omega⟩⟩
theorem stepCaller (hP:IB ty Wg Pay)(xn:∀S g w,AM S g w→∃m,Goes P true (Ah ty Wg S) DC0 (AtW1 P ty Wg Anch AM S) m g w)
  (ha:gs[0]?=some a) (hcs:CSit P ty Wg Ch Pay Anch AM (H.S 0) (H.L 0) tag sub j f0 X0 d0 a w) (AA:Com P ty Wg Ch Pay K T₀ Shun w₀ S₀ L₀ j gs w t D E X H q d0 vals) (Da:WgAt ty Wg w st sm) (AL:zT j D tag st sm)
  (ID:tag=.ret→AcqAll K Wg T₀ j t) (Bs:a.status=.running) (hnf:¬(tag=.ret∧∀w₁,Ah ty Wg (H.S 0) w w₁→Anch (H.S 0) a w₁)):
  ∃m₁ ops Gx,runT P (Yg gs w sl) 0=(.next m₁,ops)∧IC Gx (JU P ty Wg K j D E X q tag sub X0 f0)∧Inv P ty Wg Ch Pay K T₀ Shun w₀ S₀ L₀ Anch AM Gx m₁ (t++ops):=by
 have hVj:=ConcN.Vc_le j D;have pG:=AA.Ib;have FX:∀ {es:Array ZU} {fn:YT} {pos:String} {w':Zb},w'.heap.size=w.heap.size→(∀e∈es,Bk Wg e)→Kk Wg K H 0 w w' (ZE 0 fn pos es):=fun hs hb=>FC (p:=0) (K:=K) hb (by rw[hs];exact pG);have A5:∀(a:Addr) (v:Zc),(w.setCell a v).heap.size=w.heap.size:=fun a v=>by simp[Z1]
 cases hcs with
 |skd hr h hw=>
  rename_i r;rcases h.at_ hw with⟨_,a',hgo,m₂,hk⟩|⟨_,a',w',es,hgo,hG,h',hf⟩
  ·exact bookC hP ha AA hgo (.refl Wg w) Da (FX rfl bk_dis) (.sa1 (X:=h.fuel) hr hk) (AL.reopen trivial trivial rfl (by simp)) (by simp) (.inl (by simp only[phi];omega))
  ·exact ur hP ha AA Da AL (by simp) hgo hG (.skd hr h' (Ah.refl _)) hf
 |sa1 hr h=>
  rename_i r;rcases zG h with Bn|⟨m',rfl,Bb⟩
  ·obtain⟨_,Fv⟩:=Bn w (Ah.refl w)
   obtain⟨ho,rfl,rfl,_⟩:=AL.open_inv trivial;obtain⟨a',hgo,h0,h1⟩:=Fv (Vc (2 - (r+1)) D) (by omega) (by simpa[pend]using Da);have e:(((Vc (2 - (r+1)) D:Nat):Int)+1)*KK=((Vc (2 - (r+1)) D+pend (.sp r 3):Nat):Int)*KK:=by simp[pend]
   have hm:zT (2 - (r+1)) D (.sp r 3) ((((Vc (2 - (r+1)) D:Nat):Int)+1)*KK) 0:=by
    rw[e];exact .opn trivial ho (by simp)
   by_cases e0:Vc (2 - (r+1)) D=0
   ·obtain⟨m₂,hk⟩:=h0 e0
    exact bookC hP ha AA hgo (YR w (stA Wg) _) (Da.setSt _) (FX (A5 _ _) bk_rw) (.ssr (X:=X0) hr hk) hm (by simp) (.inl (by simp only[phi];omega))
   ·obtain⟨m₂,hk⟩:=h1 e0
    exact bookC hP ha AA hgo (YR w (stA Wg) _) (Da.setSt _) (FX (A5 _ _) bk_rw) (.ske (X:=X0) hr hk) hm (by simp) (.inl (by simp only[phi];omega))
  ·obtain⟨a',w',es,hgo,⟨rfl,rfl⟩,Gu⟩:=Bb w (Ah.refl w)
   exact idleC hP ha AA Da AL (by simp) hgo (.sa1 hr Gu) (by omega)
 |ssr hr h=>
  rename_i r;rcases zG h with Bn|⟨m',rfl,Bb⟩
  ·obtain⟨_,a',hgo,m₂,hk⟩:=Bn w (Ah.refl w)
   exact bookC hP ha AA hgo (.refl Wg w) Da (HG (p:=0) (K:=K) (by exact pG) (by simp) (.inr ⟨rfl,smA Wg,rfl,false,rfl⟩)) (.ske (X:=X0) hr hk) AL (by simp) (.inl (by omega))
  ·obtain⟨a',w',es,hgo,⟨rfl,rfl⟩,Gu⟩:=Bb w (Ah.refl w)
   exact idleC hP ha AA Da AL (by simp) hgo (.ssr hr Gu) (by omega)
 |ske hr h=>
  rcases zG h with Bn|⟨m',rfl,Bb⟩
  ·obtain⟨_,a',hgo,m₂,hk⟩:=Bn w (Ah.refl w)
   exact bookC hP ha AA hgo (.refl Wg w) Da (FX rfl bk_en) (.sgo (X:=X0) hr hk) (AL.reopen trivial trivial rfl (by simp)) (by simp) (.inl (by simp only[phi];omega))
  ·obtain⟨a',w',es,hgo,⟨rfl,rfl⟩,Gu⟩:=Bb w (Ah.refl w)
   exact idleC hP ha AA Da AL (by simp) hgo (.ske hr Gu) (by omega)
 |sgo hr h=>
  rename_i r;rcases zG h with Bn|⟨m',rfl,Bb⟩
  ·obtain⟨_,a',child,JQ,xl,O2⟩:=Bn w (Ah.refl w)
   obtain⟨ho,rfl,rfl,_⟩:=AL.open_inv trivial;have TR:=runT_crowd_spawn (P:=P) (sl:=sl) (i:=0) ha (by simpa using JQ);have Ff:=AA.pos;rw[AA.size]at TR;have BV:=AA.spawn (a':=a') (x:= {g:=0,fn:=a.frame.fn,pos:=a.frame.place,act:=.go (K+(2 - (r+1)))}) (y:= {g:=K+(2 - (r+1)),fn:=child.frame.fn,pos:=a.frame.place,act:=.start}) ⟨rfl,rfl⟩ ⟨rfl,rfl⟩ xl;have eV:Vc (2 - (r+1)+1) (upd D (2 - (r+1)) ⟨7,0,0⟩)=Vc (2 - (r+1)) D+1:=by
    simp only[Vc,sumTo,upd_same];rw[sumTo_upd_out D _ cnt (Zj _)];rfl
   have eS:Ssum (2 - (r+1)+1) (upd D (2 - (r+1)) ⟨7,0,0⟩)=Ssum (2 - (r+1)) D+7:=by
    simp only[Ssum,sumTo,upd_same];rw[sumTo_upd_out D _ WD.stage (Zj _)]
   have eE:sumTo (2 - (r+1)+1) (upd E (2 - (r+1)) 1)=sumTo (2 - (r+1)) E+1:=by
    simp only[sumTo,upd_same];have:=sumTo_upd_out E 1 id (Zj (2 - (r+1)));have e1:(sumTo (2 - (r+1)) fun a=>id (upd E (2 - (r+1)) 1 a))=sumTo (2 - (r+1)) (upd E (2 - (r+1)) 1):=rfl;have e2:(sumTo (2 - (r+1)) fun a=>id (E a))=sumTo (2 - (r+1)) E:=rfl;rw[e1,e2]at this;rw[this]
   have py:OpenSt (2 - (r+1)+1) (upd D (2 - (r+1)) ⟨7,0,0⟩):=fun i hi=>by
    by_cases e:i=2 - (r+1)
    ·subst e;rw[upd_same];simp
    ·rw[upd_ne D _ e];exact ho i (by omega)
   have ha':((gs.setIfInBounds 0 a').push child)[0]?=some a':=by
    have D1:=AA.size;rw[Array.getElem?_push_lt (by simp;omega), ←ZB,Z9 (by omega)]
   have hS0:((H.set (2 - (r+1)+1) (H.S 0) (H.S 0)).set 0 (H.S 0) (H.S 0)).S 0=H.S 0:=(AX _ _ _).1;have hL0:((H.set (2 - (r+1)+1) (H.S 0) (H.S 0)).set 0 (H.S 0) (H.S 0)).L 0=H.S 0:=(AX _ _ _).2;have est:∀Cc,pend Cc=0→((Vc (2 - (r+1)) D+pend (.sp r 2):Nat):Int)*KK=((Vc (2 - (r+1)+1) (upd D (2 - (r+1)) ⟨7,0,0⟩)+pend Cc:Nat):Int)*KK:=fun Cc hp=>by rw[eV,hp];simp[pend]
   have aiZ:((ZE 0 a.frame.fn a.frame.place #[]).push {g:=0,fn:=a.frame.fn,pos:=a.frame.place,act:=.go (K+(2 - (r+1)))}).push {g:=K+(2 - (r+1)),fn:=child.frame.fn,pos:=a.frame.place,act:=.start}= #[{g:=0,fn:=a.frame.fn,pos:=a.frame.place,act:=.go (K+(2 - (r+1)))}, {g:=K+(2 - (r+1)),fn:=child.frame.fn,pos:=a.frame.place,act:=.start}]:=by
    rw[ofEvents_eq];simp
   rw[aiZ]at TR;have Wc:r=0∨r=1:=by omega
   rcases Wc with rfl|rfl
   ·refine⟨_,_,_,TR,?_,_,w,sl,2,_,_,_,_,q,0,vals,.kd,0,0,A7.fuel O2,a',_,_,rfl,ha',?_,BV,Da,?_,by simp,rfl⟩
    ·have eV':Vc 2 (upd D 1 ⟨7,0,0⟩)=Vc 1 D+1:=eV
     have eS':Ssum 2 (upd D 1 ⟨7,0,0⟩)=Ssum 1 D+7:=eS;have eE':sumTo 2 (upd E 1 1)=sumTo 1 E+1:=eE;refine mu1 ?_;show phi 2 _ .kd+0+Ssum 2 (upd D 1 ⟨7,0,0⟩)+sumTo 2 (upd E 1 1)<phi 2 _ (.sp 0 2)+0+Ssum 1 D+sumTo 1 E;simp only[phi];omega
    ·rw[hS0,hL0]
     exact .kd O2 (Ah.refl w)
    ·rw[est .kd rfl]
     exact .opn trivial py (by simp)
   ·refine⟨_,_,_,TR,?_,_,w,sl,1,_,_,_,_,q,0,vals,.sp 0 5,1,0,A7.fuel O2,a',_,_,rfl,ha',?_,BV,Da,?_,by simp,rfl⟩
    ·have eS':Ssum 1 (upd D 0 ⟨7,0,0⟩)=Ssum 0 D+7:=eS
     have eE':sumTo 1 (upd E 0 1)=sumTo 0 E+1:=eE;refine mu1 ?_;show phi 2 _ (.sp 0 5)+1+Ssum 1 (upd D 0 ⟨7,0,0⟩)+sumTo 1 (upd E 0 1)<phi 2 _ (.sp 1 2)+0+Ssum 0 D+sumTo 0 E;simp only[phi];omega
    ·rw[hS0,hL0]
     exact .skd (r:=0) (by omega) O2 (Ah.refl w)
    ·rw[est (.sp 0 5) rfl]
     exact .opn trivial py (by simp)
  ·obtain⟨a',w',es,hgo,⟨rfl,rfl⟩,Gu⟩:=Bb w (Ah.refl w)
   exact idleC hP ha AA Da AL (by simp) hgo (.sgo hr Gu) (by omega)
 |kd h hw=>
  rcases h.at_ hw with⟨_,a',hgo,m₂,hk⟩|⟨_,a',w',es,hgo,hG,h',hf⟩
  ·exact bookC hP ha AA hgo (.refl Wg w) Da (FX rfl bk_dis) (.anch (X:=h.fuel) hk) (AL.reopen trivial trivial rfl (by simp)) (by simp) (.inl (by simp only[phi];omega))
  ·exact ur hP ha AA Da AL (by simp) hgo hG (.kd h' (Ah.refl _)) hf
 |anch h=>
  rcases zG h with Bn|⟨m',rfl,Bb⟩
  ·obtain⟨m₂,hk⟩:=xn _ a w (Bn w (Ah.refl w))
   exact w1Step hP ha AA Da (AL.reopen trivial trivial rfl (by simp)) hk (.inl (by simp only[phi];omega))
  ·obtain⟨a',w',es,hgo,⟨rfl,rfl⟩,Gu⟩:=Bb w (Ah.refl w)
   exact idleC hP ha AA Da AL (by simp) hgo (.anch Gu) (by omega)
 |w1 h=>exact w1Step hP ha AA Da AL h (.inr ⟨rfl,rfl,rfl⟩)
 |w2 h=>
  rename_i vs;rcases zG h with Bn|⟨m',rfl,Bb⟩
  ·obtain⟨_,Fv⟩:=Bn w (Ah.refl w)
   obtain⟨ho,rfl,rfl,pz⟩:=AL.open_inv trivial;obtain⟨hle,h1⟩:=pz vs rfl;obtain⟨aj0,ade⟩:=Fv (Vc 2 D) (by omega) (by simpa[pend]using Da);by_cases e:Vc 2 D=vs
   ·obtain⟨a',hgo,m₂,hk⟩:=aj0 e
    exact bookC hP ha AA hgo (YR w (stA Wg) _) (Da.setSt _) (FX (A5 _ _) bk_rw) (.sw (X:=X0) hk) (.reg trivial ho (by omega)) (by simp) (.inl (by simp only[phi];omega))
   ·obtain⟨a',hgo,m₂,hk⟩:=ade e
    exact bookC hP ha AA hgo (.refl Wg w) Da (FX rfl bk_rd) (.anch (X:=X0) hk) (AL.reopen trivial trivial rfl (by simp)) (by simp) (.inl (by simp only[phi];omega))
  ·obtain⟨a',w',es,hgo,⟨rfl,rfl⟩,Gu⟩:=Bb w (Ah.refl w)
   exact idleC hP ha AA Da AL (by simp) hgo (.w2 Gu) (by omega)
 |sw h=>
  rcases zG h with Bn|⟨m',rfl,Bb⟩
  ·obtain⟨_,a',hgo,m₂,hk⟩:=Bn w (Ah.refl w)
   exact bookC hP ha AA hgo (.refl Wg w) Da (HG (p:=0) (K:=K) (by exact pG) (by simp) (.inr ⟨rfl,smA Wg,rfl,true,rfl⟩)) (.w3 (X:=X0) hk) AL (by simp) (.inl (by omega))
  ·obtain⟨a',w',es,hgo,⟨rfl,rfl⟩,Gu⟩:=Bb w (Ah.refl w)
   exact idleC hP ha AA Da AL (by simp) hgo (.sw Gu) (by omega)
 |w3 h=>
  rcases zG h with Bn|⟨m',rfl,Bb⟩
  ·obtain⟨_,aiO,iy,adf⟩:=Bn w (Ah.refl w)
   cases AL with
   |opn h1 _ _=>exact h1.elim
   |reg h1 h2 h3=>exact bookC hP ha AA (iy ⟨_,Da⟩) (.refl Wg w) Da (FX rfl (by simp)) (.blk (X:=X0) Bn) (.reg trivial h2 h3) (by simp) (.inr ⟨rfl,.inr ⟨rfl,by omega⟩⟩)
   |last L h1 h2 h3 h4=>exact bookC hP ha AA (iy ⟨_,Da⟩) (.refl Wg w) Da (FX rfl (by simp)) (.blk (X:=X0) Bn) (.last L trivial h2 h3 h4) (by simp) (.inr ⟨rfl,.inr ⟨rfl,by omega⟩⟩)
   |sema h2=>
    obtain⟨a',hgo,m₂,hk⟩:=adf Da;exact bookC hP ha AA hgo (YR w (smA Wg) _) (Da.setSm 0) (FX (A5 _ _) bk_sem) (.w4 (X:=X0) hk) (.fin trivial h2) (by simp) (.inl (by simp only[phi];omega))
   |fin h1 _=>exact h1.elim
  ·obtain⟨a',w',es,hgo,⟨rfl,rfl⟩,Gu⟩:=Bb w (Ah.refl w)
   exact idleC hP ha AA Da AL (by simp) hgo (.w3 Gu) (by omega)
 |blk h=>simp at Bs
 |w4 h=>
  rcases zG h with Bn|⟨m',rfl,Bb⟩
  ·obtain⟨_,hx⟩:=Bn w (Ah.refl w)
   obtain⟨hq,rfl,rfl⟩:=AL.fin_inv trivial;obtain⟨a',hgo,m₂,hk⟩:=hx Da;exact bookC hP ha AA hgo (.refl Wg w) Da (FX rfl bk_rd) (.ke (X:=X0) hk) (.fin trivial hq) (by simp) (.inl (by simp only[phi];omega))
  ·obtain⟨a',w',es,hgo,⟨rfl,rfl⟩,Gu⟩:=Bb w (Ah.refl w)
   exact idleC hP ha AA Da AL (by simp) hgo (.w4 Gu) (by omega)
 |ke h=>
  rcases zG h with Bn|⟨m',rfl,Bb⟩
  ·obtain⟨_,a',hgo,m₂,hk⟩:=Bn w (Ah.refl w)
   obtain⟨hq,rfl,rfl⟩:=AL.fin_inv trivial;exact bookC hP ha AA hgo (.refl Wg w) Da (FX rfl bk_en) (.acq (X:=X0) hk) (.fin trivial hq) (by simp) (.inl (by simp only[phi];omega))
  ·obtain⟨a',w',es,hgo,⟨rfl,rfl⟩,Gu⟩:=Bb w (Ah.refl w)
   exact idleC hP ha AA Da AL (by simp) hgo (.ke Gu) (by omega)
 |acq h=>
  rcases zG h with Bn|⟨m',rfl,Bb⟩
  ·obtain⟨_,a',hgo,m₂,hk⟩:=Bn w (Ah.refl w)
   obtain⟨hq,rfl,rfl⟩:=AL.fin_inv trivial;refine bookC hP ha AA hgo (.refl Wg w) Da (HG (p:=0) (K:=K) (by exact pG) (by simp) (.inl rfl)) (.ret (X:=X0) hk) (.fin trivial hq) (fun _=>?_) (.inl (by simp only[phi];omega));have e1:ZE 0 a.frame.fn a.frame.place #[mk (.acquire (stA Wg))]= #[{g:=0,fn:=a.frame.fn,pos:=a.frame.place,act:=.mark (.acquire (stA Wg))}]:=by rw[ofEvents_eq];simp[Go.ConcR.ofEvent_mk]
   have hy:(t++ #[({g:=0,fn:=a.frame.fn,pos:=a.frame.place,act:=.mark (.acquire (stA Wg))}:MemOp)])[t.size]?=some {g:=0,fn:=a.frame.fn,pos:=a.frame.place,act:=.mark (.acquire (stA Wg))}:=by simp
   have Ff:=AA.pos;refine⟨t.size,by rw[e1,act?_of hy],by rw[e1];simp[YY],by rw[e1];exact⟨0,by simp[YY],by rw[deaf_old (Zj _)];exact AA.deaf0⟩,fun i hi=>?_⟩;obtain⟨r,hr⟩:=AA.rel i hi (by rw[hq i hi];omega);refine⟨r,IA.other hr fun op hop=>?_,lt_of_act? hr.1.act⟩;obtain⟨e,_,rfl⟩:=ZJ hop;show 0≠K+i;omega
  ·obtain⟨a',w',es,hgo,⟨rfl,rfl⟩,Gu⟩:=Bb w (Ah.refl w)
   exact idleC hP ha AA Da AL (by simp) hgo (.acq Gu) (by omega)
 |ret h=>
  rcases zG h with Bn|⟨m',rfl,Bb⟩
  ·exact absurd ⟨rfl,Bn⟩ hnf
  ·obtain⟨a',w',es,hgo,⟨rfl,rfl⟩,Gu⟩:=Bb w (Ah.refl w)
   exact idleC hP ha AA Da AL ID hgo (.ret Gu) (by omega)
end
end Go.Pair
namespace Go.Pair
open Go Go.Conc Go.BK
open Go.ConcN (PermW RelBy WgLive CTag phi pend isOpen isW3 isFin OpenSt AllQuit WD Vc Ssum Fsum cnt sumTo sumTo_upd upd upd_same upd_ne exists_counted)
open Go.ConcR (KK WgAt stA smA rd wr mk DC0 Bk g_of_ofEvents)
section
variable {P:Zp}{ty:Zs}{Wg Ch:Nat}{Pay:Nat→FA}{K T₀:Nat}{Shun:Loc→Prop}{w₀:Zb}{S₀ L₀:Nat→Prop}{Anch AM:B0}
 {j:Nat} {gs:Array Zg} {w:Zb} {t:YL} {D:Nat→WD} {E:Nat→Nat} {X:Nat→Fuel P ty Wg} {H:Je} {q:Nat→Nat} {d0:Nat} {vals:Nat→Zc} {tag:CTag} {sub f0:Nat} {X0:Fuel P ty Wg} {a:Zg} {sl:Option (Nat×Nat)} {st sm:Int}
theorem WSit.running_of {NV:FA}{S L:Nat→Prop}{s e m d:Nat}{X:Fuel P ty Wg}{g:Zg}(h:WSit P ty Wg Ch NV S L s e m d X g w)(hs:s≠1):g.status=.running:=
 h.status.resolve_right fun x=>hs x.2
theorem someone_runs (Rq:∀S g w,AM S g w→g.status=.running)(hA:∀S g w,Anch S g w→g.status=.running)(ha:gs[0]?=some a)(hcs:CSit P ty Wg Ch Pay Anch AM (H.S 0) (H.L 0) tag sub j f0 X0 d0 a w)(AA:Com P ty Wg Ch Pay K T₀ Shun w₀ S₀ L₀ j gs w t D E X H q d0 vals)(AL:zT j D tag st sm):
  ∃(i:Nat) (g:Zg),gs[i]?=some g∧g.status=.running:=by
 rcases hcs.status Rq hA with⟨hs,_⟩|⟨_,rfl⟩
 ·exact⟨0,a,ha,hs⟩
 ·cases AL with
  |opn h1 _ _=>exact h1.elim
  |reg _ _ h3=>
   obtain⟨i,hi,h5⟩:=exists_counted h3;obtain⟨g,hg,hs⟩:=AA.wk i hi;exact⟨K+i,g,hg,hs.running_of (by omega)⟩
  |last L _ h2 h3 _=>
   obtain⟨g,hg,hs⟩:=AA.wk L h2;exact⟨K+L,g,hg,hs.running_of (by omega)⟩
  |fin h1 _=>exact h1.elim
theorem all_awake (Rq:∀S g w,AM S g w→g.status=.running)(hA:∀S g w,Anch S g w→g.status=.running)(ha:gs[0]?=some a)(hcs:CSit P ty Wg Ch Pay Anch AM (H.S 0) (H.L 0) tag sub j f0 X0 d0 a w)(AA:Com P ty Wg Ch Pay K T₀ Shun w₀ S₀ L₀ j gs w t D E X H q d0 vals):∀g∈gs,awake g:=by
 intro g hg;obtain⟨i,hi⟩:=Array.mem_iff_getElem?.1 hg;have Az:=(Za.1 hi).1;have D1:=AA.size;rcases Yr i with rfl|hp
 ·rw[ha]at hi;cases hi
  intro tm;rcases hcs.status Rq hA with⟨hs,_⟩|⟨hs,_⟩<;>rw[hs]<;>simp
 ·rcases Zae i K with hK|hK
  ·exact awake_of ((AA.old i g hp hK hi).status.elim .inl fun x=>.inr (.inr x))
  ·obtain⟨g',Gu,hs⟩:=AA.wk (i - K) (by omega)
   rw[show K+(i - K)=i by omega,hi]at Gu;cases Gu;exact awake_of (hs.status.elim .inl fun x=>.inr (.inr x.1))
theorem iz (hP:IB ty Wg Pay)(Rq:∀S g w,AM S g w→g.status=.running)(hA:∀S g w,Anch S g w→g.status=.running)
  (xn:∀S g w,AM S g w→∃m,Goes P true (Ah ty Wg S) DC0 (AtW1 P ty Wg Anch AM S) m g w) (μ:Mu P ty Wg) (m:Machine) (t:YL) (h:Inv P ty Wg Ch Pay K T₀ Shun w₀ S₀ L₀ Anch AM μ m t):
  Fin P ty Wg Ch Pay K T₀ Shun w₀ S₀ L₀ Anch m t∨∃m' ops Gx,stepT P m=(.next m',ops)∧IC Gx μ∧Inv P ty Wg Ch Pay K T₀ Shun w₀ S₀ L₀ Anch AM Gx m' (t++ops):=by
 obtain⟨gs,w,sl,j,D,E,X,H,q,d0,vals,tag,sub,f0,X0,a,st,sm,rfl,ha,hcs,AA,Da,AL,ID,rfl⟩:=h;by_cases hf:tag=.ret∧∀w₁,Ah ty Wg (H.S 0) w w₁→Anch (H.S 0) a w₁
 ·obtain⟨rfl,B3⟩:=hf
  obtain⟨hq,rfl,rfl⟩:=AL.fin_inv trivial;have hj:j=2∧d0=0:=by cases hcs;exact⟨rfl,rfl⟩
  obtain⟨rfl,rfl⟩:=hj;exact .inl ⟨gs,w,sl,D,E,X,H,q,vals,a,rfl,ha,B3 w (Ah.refl w),AA,Da,hq,ID rfl⟩
 refine .inr ?_;obtain⟨i,g,d,Iy,hg,Bs,Bb⟩:=crowd_pick (P:=P) (w:=w) (sl:=sl) (all_awake Rq hA ha hcs AA) (someone_runs Rq hA ha hcs AA AL);rw[Bb];have Kc:=hcs.rely (Ah.at w d);have BV:=AA.at hP d;have Kl:WgAt ty Wg (w.at d) st sm:=Da;have Ff:=AA.pos;rcases Yr i with rfl|hip
 ·rw[ha]at hg;cases hg
  exact stepCaller (sl:=Iy) hP xn ha Kc BV Kl AL ID Bs fun⟨h1,h2⟩=>hf ⟨h1,fun w₁ hr=>h2 w₁ ⟨⟨hr.base.same,hr.base.size,hr.base.os⟩,hr.live⟩⟩
 ·rcases Zae i K with hK|hK
  ·
   have hq:=AA.old i g hip hK hg;have Az:i<gs.size:=(Za.1 hg).1;have hi0:(i==0)=false:=by simp;omega
   cases lG:q i with
   |zero=>rw[lG]at hq;rw[hq.1]at Bs;cases Bs
   |succ k=>
    rw[lG]at hq;rcases hq with⟨hfi,_⟩|⟨_,g',es,hm,lH,P2⟩
    ·rw[hfi]at Bs;cases Bs
    have Fl:=runT_crowd_go (P:=P) (sl:=Iy) (i:=i) hg (by rw[hi0];exact lH (w.at d));have hc:=BV.ad3 (k:=i) (n':=k) hip hK (gs':=(gs.map (woken P g g' (w.at d))).setIfInBounds i g') (g':=g') (by simp) (ConcN.get_map_set_same _ _ _ Az) (fun k' h1 h2=>BV.F7 g g' (w.at d) i h1 h2) (fn:=g.frame.fn) (pos:=g.frame.place) hm P2;obtain⟨Cc,f',xp,cg,_⟩:=Kc.wokenBy Rq hA (Ah.refl _) g g';refine⟨_,_,_,Fl,?_,_,w.at d,Iy,j,D,E,X,H,upd q i k,d0,vals,Cc,sub,f',X0,_,st,sm,rfl,by rw[ConcN.get_map_set _ _ _ _ (by omega),ha];rfl,xp,hc,Kl,AL.retag cg,fun e=>?_,rfl⟩
    ·unfold JU
     rw[ConcN.phi_retag 2 _ cg];have:=sumTo_upd q k id hK;simp only[lG,id]at this;have e1:(sumTo K fun a=>upd q i k a)=sumTo K (upd q i k):=rfl;have e2:(sumTo K fun a=>q a)=sumTo K q:=rfl;rw[e1,e2]at this;exact mu4 (by omega)
    ·rcases cg with rfl|⟨_,rfl⟩
     ·exact(ID e).app fun i' r Df hr=>IA.other hr fun op hop=>by
       obtain⟨e,_,rfl⟩:=ZJ hop;show i≠K+i';omega
     ·cases e
  ·have Az:=(Za.1 hg).1
   have D1:=AA.size;have e:i=K+(i - K):=by omega
   rw[e]at hg⊢;exact stepWorker hP Rq hA ha Kc BV Kl AL ID (by omega) hg Bs
theorem iA (hP:IB ty Wg Pay)(Rq:∀S g w,AM S g w→g.status=.running)(hA:∀S g w,Anch S g w→g.status=.running)
  (xn:∀S g w,AM S g w→∃m,Goes P true (Ah ty Wg S) DC0 (AtW1 P ty Wg Anch AM S) m g w) (μ:Mu P ty Wg):∀(m:Machine) (t:YL),Inv P ty Wg Ch Pay K T₀ Shun w₀ S₀ L₀ Anch AM μ m t→
  ∃N m' t',runNT P N m t=(.next m',t')∧Fin P ty Wg Ch Pay K T₀ Shun w₀ S₀ L₀ Anch m' t':=by
 induction μ using(aiV P ty Wg).induction with
 |_ μ ih=>
  intro m t hI;rcases iz hP Rq hA xn μ m t hI with h|⟨m',ops,Gx,hs,hr,hI'⟩
  ·exact⟨0,m,t,rfl,h⟩
  ·obtain⟨n,m₂,Hs,h1,h2⟩:=ih Gx hr m' (t++ops) hI'
   exact⟨n+1,m₂,Hs,by rw[runNT_succ_next hs];exact h1,h2⟩
theorem Xg (AA:Com P ty Wg Ch Pay K T₀ Shun w₀ S₀ L₀ 2 gs w t D E X H q 0 vals)(ID:AcqAll K Wg T₀ 2 t):Past (fun l=>Shun l∨LU Wg l) w.heap.size t:=by
 obtain⟨qq,h1,h2,h3,h4⟩:=ID;obtain⟨z,hz,hzg⟩:=zd.1 h2;have edge:∀i,i<2→∀k,t.g? k=some (K+i)→(∃r,IA Wg T₀ t (K+i) r∧r<qq∧k≤r)→HappensBefore t k qq:=by
  intro i _ k hk ⟨r,hr,xk,hkr⟩;have e:HappensBefore t r qq:=.single (.inr ⟨.marked xk (.inr hr.1.act) h1 (fun k hk _=>AA.norel k (Nat.le_of_lt (Nat.lt_of_le_of_lt hr.2.1 hk))),hr.1.heard,h3⟩);rcases Zae k r with Az|hge
  ·exact .trans (.single (.inl ⟨Az,K+i,hk,hr.1.g⟩)) e
  ·obtain rfl:k=r:=by omega
   exact e
 refine⟨AA.ti.nr,fun i x hx hm=>?_,fun i g hg BI hc=>?_,AA.deaf0,AA.ti.seen⟩
 ·rcases AA.ti.kn i x hx hm with k|⟨k,k'⟩|⟨p,lz,UY,hg⟩
  ·exact .inl k
  ·exact .inr ⟨.inl k,k'⟩
  ·obtain⟨i',rfl⟩:∃i',p=i'+1:=⟨p - 1,by omega⟩
   obtain⟨r,hr,xk⟩:=h4 i' (by omega);rcases hr.2.2 i x hx hm hg with hk|⟨hk,JS⟩
   ·exact .inl ⟨qq,z,hz,hzg,.inr (edge i' (by omega) i hg ⟨r,hr,xk,hk⟩)⟩
   ·exact .inr ⟨.inr hk,JS⟩
 ·rcases AA.ti.ov i g hg BI hc with h|⟨p,lz,UY,rfl⟩
  ·exact h
  ·obtain⟨i',rfl⟩:∃i',p=i'+1:=⟨p - 1,by omega⟩
   obtain⟨r,hr,xk⟩:=h4 i' (by omega);have hle:i≤r:=Nat.le_of_not_lt fun Az=>hr.1.after i Az hg hc;exact⟨qq,h2,edge i' (by omega) i hg ⟨r,hr,xk,hle⟩⟩
theorem Rv (AA:Com P ty Wg Ch Pay K T₀ Shun w₀ S₀ L₀ 2 gs w t D E X H q 0 vals)(hq:AllQuit 2 D):∃q',Leavers P t gs q':=by
 refine⟨fun i=>if i<K then q i else(D (i - K)).fuel,fun i g hi hg=>?_,fun i hi=>AA.above i (by rw[←AA.size];exact hi)⟩;have Az:=(Za.1 hg).1;have D1:=AA.size;by_cases hK:i<K
 ·rw[if_pos hK]
  exact AA.old i g hi hK hg
 ·rw[if_neg hK]
  obtain⟨g',Gu,hs⟩:=AA.wk (i - K) (by omega);have hd:=AA.deafW (i - K) (by omega);rw[show K+(i - K)=i by omega]at Gu hd;rw[hg]at Gu;cases Gu;rw[hd];have h1:=hq (i - K) (by omega);generalize (D (i - K)).fuel=f at*;generalize (D (i - K)).deaf=dd at*;generalize E (i - K)=e at*;generalize X (i - K)=x at*;rw[h1]at hs;cases hs with
  |quit h=>exact h
end
section
variable {P:Zp}{ty:Zs}{Wg Ch:Nat}{Pay:Nat→FA}{Shun:Loc→Prop}{Anch AM:B0}
structure Joined (P:Zp)(Ch Wg:Nat)(Pay:Nat→FA)(Shun:Loc→Prop)(Anch:B0)(S L:Nat→Prop)(w:Zb)(gs':Array Zg)(w':Zb)(t':YL):Prop where
 main:∃a' S',gs'[0]?=some a'∧Anch S' a' w'∧∀b,S' b→(S b∨w.heap.size≤b)∧b<w'.heap.size∧b≠Wg∧b≠Ch
 old:∃q',Leavers P t' gs' q'
 past:Past (fun l=>Shun l∨LU Wg l) w'.heap.size t'
 chan:∃(vals:Nat→Zc) (ord:List Nat) (tm:Bool),(ord=[0,1]∨ord=[1,0])∧w'.heap[Ch]?=some (.chan 2 (ord.map vals).toArray false 2 0 tm)∧
  ∀i,i<2→∃T,Pay i T (vals i) w'∧∀b,T b→(S b∨w.heap.size≤b)∧b<w'.heap.size∧b≠Wg∧b≠Ch
 still:∀b,b<w.heap.size→b≠Wg→b≠Ch→(¬S b∨L b)→w'.heap[b]?=w.heap[b]?
 size:w.heap.size≤w'.heap.size
 os:w'.os=w.os
 tape:w'.tape=w.tape
 output:w'.output=w.output
theorem cj (hP:IB ty Wg Pay)(Rq:∀S g w,AM S g w→g.status=.running)(hA:∀S g w,Anch S g w→g.status=.running)
  (xn:∀S g w,AM S g w→∃m,Goes P true (Ah ty Wg S) DC0 (AtW1 P ty Wg Anch AM S) m g w)
  {gs:Array Zg} {a:Zg} {w:Zb} {sl:Option (Nat×Nat)} {t:YL} {q:Nat→Nat} {S L:Nat→Prop} {tm:Bool}
  (h0:gs[0]?=some a) (hL:Leavers P t gs q) (uu:Past Shun w.heap.size t) (hH:GK Shun S w.heap.size) (hSh:GJ Shun w.heap.size)
  (hWS:¬S Wg) (hCS:¬S Ch) (BI:Ch≠Wg) (Da:WgAt ty Wg w 0 0) (lT:w.heap[Ch]?=some (.chan 2 #[] false 0 0 tm)) (aj1:∀l,LU Wg l→¬Shun l) (iq:∀b,L b→b<w.heap.size)
  (qR:A7 P true ty Wg L (AtKdS P ty Wg Ch (Pay 0) (ui P ty Wg Ch Pay 2 AM 1)) S a w):
  ∃N gs' w' Iy t',runNT P N (Yg gs w sl) t=(.next (Yg gs' w' Iy),t')∧Joined P Ch Wg Pay Shun Anch S L w gs' w' t':=by
 have Az:0<gs.size:=(Za.1 h0).1;have hw:Wg<w.heap.size:=(Za.1 Da).1;have hc:Ch<w.heap.size:=(Za.1 lT).1;have z:∀p:Nat,p≤0→p=0:=fun p h=>by omega
 let H:Je:=⟨fun p=>if p=0 then S else fun _=>False,fun p=>if p=0 then L else fun _=>False⟩
 have hHS:H.S 0=S:=rfl;have hHL:H.L 0=L:=rfl;have AA:Com P ty Wg Ch Pay gs.size t.size Shun w S L 0 gs w t (fun _=>⟨0,0,0⟩) (fun _=>0) (fun _=>Fuel.none P ty Wg) H q 0 (fun _=>Ze):=by
  refine⟨rfl,Az,fun i hi=>by omega,fun i g h1 h2 h3=>hL.old i g h1 h3,TI.qP uu (fun b hb=>?_) aj1,⟨fun p p' hp j_ BI=>absurd ((z p hp).trans (z p' j_).symm) BI,fun p hp=>by rw[z p hp];exact hWS,fun p hp b hb=>?_⟩,fun k hk hx=>absurd (lt_of_act? hx) (by omega),Zj _,uu.hears,fun i hi=>by omega,hL.above,fun i hi=>by omega,hw,hc,BI,
   fun p hp=>by rw[z p hp];exact hCS,⟨[],tm,List.nodup_nil,fun i=>by simp,lT⟩,fun i hi=>by omega,fun b _ _ _ _=>rfl,Zj _,rfl,rfl,rfl,fun p hp b hb=>?_,fun p hp b hl hb _=>?_,iq,fun i hi=>by omega⟩
  ·refine⟨(hH b hb).1,fun l hl hs=>?_⟩
   obtain⟨x,rfl,_⟩:=hSh l hs;simp only[blk,ZI]at hl;exact(hH b hb).2 x hl hs
  ·rw[z p hp]at hb
   exact(hH b hb).1
  ·rw[z p hp]at hb
   exact .inl hb
  ·rw[z p hp]
   exact hl
 have AL:zT 0 (fun _=>(⟨0,0,0⟩:WD)) (.sp 1 5) 0 0:=by
  have:=ConcN.Mode.opn (j:=0) (D:=fun _=>(⟨0,0,0⟩:WD)) (tag:=.sp 1 5) trivial (fun i hi=>by omega) (fun vs e=>by cases e);simpa[Vc,sumTo,pend]using this
 obtain⟨N,m',t',hr,gs',w',Iy,D,E,X,H',q',vals,a',rfl,ha',B3,BV,_,hq,ID⟩:=iA (K:=gs.size) (T₀:=t.size) (Shun:=Shun) (w₀:=w) (S₀:=S) (L₀:=L) hP Rq hA xn _ (Yg gs w sl) t
  ⟨gs,w,sl,0,_,_,_,H,q,0,_,.sp 1 5,1,0,qR.fuel,a,0,0,rfl,h0,.skd (r:=1) (by omega) qR (Ah.refl w),AA,Da,AL,by simp,rfl⟩
 have uv:∀p,p≤2→∀b,H'.S p b→(S b∨w.heap.size≤b)∧b<w'.heap.size∧b≠Wg∧b≠Ch:=fun p hp b hb=>⟨BV.FB p hp b hb,BV.NW.low p hp b hb,fun e=>BV.NW.wg p hp (e▸hb),fun e=>BV.NY p hp (e▸hb)⟩;refine⟨N,gs',w',Iy,t',hr,⟨a',H'.S 0,ha',B3,uv 0 (by omega)⟩,Rv BV hq,Xg BV ID,?_,fun b h1 h2 h3 h4=>BV.dn b h1 h2 h3 h4,BV.grown,BV.os,BV.tape,BV.output⟩;have he:∀i,i<2→E i=0:=fun i hi=>BV.xh i hi (by rw[hq i hi];omega);obtain⟨ord,tm',pB,ly,uo⟩:=BV.ch;have xq:∀i,i∈ord↔i<2:=fun i=>(ly i).trans ⟨And.left,fun h=>⟨h,he i h⟩⟩;have iB:ord=[0,1]∨ord=[1,0]:=by
  match ord,pB,xq with
  | [],_,hm=>exact absurd ((hm 0).2 (by omega)) (by simp)
  | [x],_,hm=>
   have h0:=(hm 0).2 (by omega);have h1:=(hm 1).2 (by omega);simp at h0 h1;omega
  | [x,y],hn,hm=>
   have h0:=(hm 0).2 (by omega);have h1:=(hm 1).2 (by omega);simp at h0 h1;rcases h0 with h0|h0
   ·rcases h1 with h1|h1
    ·omega
    ·exact .inl (by rw[←h0, ←h1])
   ·rcases h1 with h1|h1
    ·exact .inr (by rw[←h0, ←h1])
    ·omega
  |x::y::zz::l,hn,hm=>
   exfalso;have hx:=(hm x).1 (by simp);have hy:=(hm y).1 (by simp);have hz:=(hm zz).1 (by simp);simp at hn;omega
 have hlen:ord.length=2:=by rcases iB with rfl|rfl<;>rfl
 rw[hlen]at uo;exact⟨vals,ord,tm',iB,uo,fun i hi=>⟨H'.S (i+1),BV.pay i hi (he i hi),uv (i+1) (by omega)⟩⟩
end
end Go.Pair
namespace Go.Pair
open Go Go.Conc Go.BK
section
variable {P:Zp}{m:Bool}{ty:Zs}{Wg:Nat}{Stop Stop₂:B0}
theorem Ah.sub {S T:Nat→Prop}{w w₂:Zb}(h:Ah ty Wg T w w₂)(hs:∀b,S b→T b):Ah ty Wg S w w₂:=⟨⟨fun b hb=>h.base.same b (hs b hb),h.base.size,h.base.os⟩,h.live⟩
theorem A7.adg {n₀:Nat}{S₀ T₀:Nat→Prop}(hT:∀b,T₀ b→b<n₀)(hST:∀b,S₀ b→T₀ b){S:Nat→Prop}{g:Zg}{w:Zb}(h:A7 P m ty Wg S₀ Stop S g w):
  n₀≤w.heap.size→(∀b,S b→S₀ b∨n₀≤b)→(∀b,S₀ b→S b)→
  (∀S g w,(∀b,S b→S₀ b∨n₀≤b)→Stop S g w→Stop₂ (fun b=>S b∨T₀ b) g w)→A7 P m ty Wg T₀ Stop₂ (fun b=>S b∨T₀ b) g w:=by
 induction h with
 |stop h=>
  intro _ hS _ hi;exact .stop fun w₂ hr=>hi _ _ _ hS (h w₂ (hr.sub fun b hb=>.inl hb))
 | @step S g w hs Gr EC Ix h _ ih=>
  intro hn hS qS hi;refine .WS hs fun w₂ hr=>?_;have OP:Ah ty Wg S w w₂:=hr.sub fun b hb=>.inl hb;obtain⟨h1,hG⟩:=h w₂ OP;have uw:n₀≤w₂.heap.size:=Zx hn hr.base.size;have adh:Hr (fun b=>S b∨T₀ b) w₂ (EC w₂)=fun b=>Hr S w₂ (EC w₂) b∨T₀ b:=by
   funext b
   apply propext;unfold Hr;constructor
   ·rintro((x|x)|x)
    ·exact .inl (.inl x)
    ·exact .inr x
    ·exact .inl (.inr x)
   ·rintro((x|x)|x)
    ·exact .inl (.inl x)
    ·exact .inr x
    ·exact .inl (.inr x)
  refine⟨_,_,_,h1,⟨hG.size,fun b hb hx=>?_,hG.os,hG.tape,hG.output,fun e he=>?_⟩,?_⟩
  ·refine hG.still b hb ?_
   rcases hx with hx|hx
   ·exact .inl fun y=>hx (.inl y)
   ·by_cases hSb:S b
    ·rcases hS b hSb with y|y
     ·exact .inr y
     ·have:=hT b hx;omega
    ·exact .inl hSb
  ·have:=hG.evs e he
   rw[adh];unfold U1 at this⊢;have key:∀b,Hr S w₂ (EC w₂) b→(e.write=true→¬S₀ b)→e.write=true→¬T₀ b:=by
    intro b hb hw Qk ht;rcases hb with y|y
    ·rcases hS b y with z|z
     ·exact hw Qk z
     ·have:=hT b ht;omega
    ·have:=hT b ht;omega
   split
   ·rename_i a hl
    rw[hl]at this;exact⟨.inl this.1,key _ this.1 this.2⟩
   ·rename_i r hl
    rw[hl]at this;exact⟨.inl this.1,key _ this.1 this.2⟩
   ·trivial
   ·trivial
   ·rename_i h1 h2 h3 h4
    split at this
    ·exact absurd ‹_› (h1 _)
    ·exact absurd ‹_› (h2 _)
    ·exact absurd ‹_› h3
    ·exact absurd ‹_› h4
    ·exact this
  ·rw[adh]
   refine ih w₂ OP (Zx uw hG.size) (fun b hb=>?_) (fun b hb=>.inl (qS b hb)) hi;rcases hb with y|y
   ·exact hS b y
   ·exact .inr (Zx uw y.1)
end
end Go.Pair
