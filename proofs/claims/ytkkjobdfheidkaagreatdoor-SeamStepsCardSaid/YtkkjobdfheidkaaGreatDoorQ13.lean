/- Part of a proof. -/
import Derived.Test.YtkkjobdfheidkaaGreatDoorQ12
import Derived.Lib.SliceRun
set_option maxRecDepth 100000
set_option maxHeartbeats 6400000
open Array renaming getElem?_eq_some_iff→Za,getElem?_append_left→zg,getElem?_append_right→Y7,getElem?_eq_none→YG,replicate→Yd,getElem?_setIfInBounds_self_of_lt→Z9,getElem?_eq_getElem→ZB,getElem?_setIfInBounds_ne→Zk
open Bool renaming and_eq_true→ZD,or_eq_true→ZaA
open Classical renaming byContradiction→YF
open Go renaming World→Zb,TypeId→Zs,Value→Zc,Program→Zp,FuncId→YT,undef→Ze,info_parts→YC,wpList_append_own→ZaV,wpQuiet_nil→Ye
open Go.Code renaming region→zH
open Go.Lib renaming run_eql_slice_nil→ZaH,hid→Zh
open Go.Proofs.Tryz renaming underlying22→ZaF
open Go.Region renaming Mode→YD,ready→zh,binds→zZ,noSelect→Yv,free→ZaS,wanted→zU
open Go.Result renaming andThen→zB
open Go.RowKit renaming Below→Zm
open Go.RowKit.Below renaming refl→Zi
open Go.Sem renaming run_bind→za
open Go.Value renaming int→ZT
open Go.World renaming block_lt_of_cell?→ZH,cell?→zJ,ownsRow_made→Yq,ownsRow_nil→Yz,size_alloc→ZG
open List renaming eq_nil_of_length_eq_zero→Y8,getElem?_eq_some_iff→Zo,getElem?_take_of_lt→ZW,getElem?_map→ZaT,filterMap_cons→zQ,mem_cons_self→zF,mem_cons_of_mem→zr,range→ZaB,ext_getElem?→YM,getElem?_drop→YA,getElem?_eq_getElem→Z7,getElem?_eq_none→ZS,getElem_of_mem→Zaq,mem_of_getElem?→Yh,nil_append→zE,drop_eq_getElem_cons→Z4,drop_eq_nil_iff→zf,mem_singleton→YJ
open Nat renaming le_refl→Zj,zero_le→Zt,le_trans→Zx,lt_of_lt_of_le→Zl,lt_or_ge→Zae,zero_add→Ym
namespace Go.Proofs.Fit
open Go Go.RowKit
def Cy (n:Nat)(w:Zb)(b:Nat):Prop:=n≤b∧b<w.heap.size
theorem Uk {w:Zb}{base:Nat}{e:Zs}{v:Zc}{n:Nat}{xs:List Zc}(h:w.ownsRow base e 1 v n xs):
  ∃a c,v=.slice a n c∧n≤c∧c≤maxLen∧∀i u,xs[i]?=some u→∃b,a=some ⟨b,0,none⟩∧Cy base w b∧w.cell? ⟨b,0+i*1+0,none⟩=some u:=by
 rcases h.2 with⟨rfl,rfl⟩|⟨g,cap,cur,rfl,hb,hg,h1,h2,h3,h4⟩
 ·refine⟨none,0,rfl,Zj _,Zt _,fun i u hu=>?_⟩
  have:=h.1;have:xs=[]:=Y8 (by simpa using this);subst this;cases hu
 ·refine⟨_,_,rfl,h1,h2,fun i u hu=>⟨g,rfl,⟨hb,(Za.1 hg).1⟩,?_⟩⟩
  have hi:i<n:=by
   have:=(Zo.1 hu).1;rw[h.1]at this;omega
  rw[←h4,ZW (by omega)]at hu;rw[show 0+i*1+0=i by omega];exact ch hg (by simpa using hu)
theorem dm {w:Zb}{base:Nat}{e:Zs}{v:Zc}{l:List Int}(h:w.ownsRow base e 1 v l.length (l.map (ZT .i64))):SI (Cy base w) w v l:=by
 obtain⟨a,c,h1,h2,h3,h4⟩:=Uk h;refine⟨a,c,h1,h2,h3,fun i x hx=>?_⟩;obtain⟨b,hb,hn,hc⟩:=h4 i (.int .i64 x) (by rw[ZaT,hx];rfl);refine⟨b,0,[.int .i64 x],hb,hn,rfl,fun j u hu=>?_,rfl⟩;cases j with
 |zero=>cases hu;exact hc
 |succ j=>cases hu
theorem Cy.mono {n m:Nat}{w w':Zb}(h:w.heap.size≤w'.heap.size)(hn:m≤n){b:Nat}(hb:Cy n w b):Cy m w' b:=⟨Zx hn hb.1,Zl hb.2 h⟩
theorem Br {B:Nat}{w0 w w':Zb}{row:Option Nat}(h:Zm B w0 w)(hg:w.grownBy w' row)(hr:∀k,row=some k→B≤k)(hB:B≤w.heap.size):Zm B w0 w':=
 h.trans ⟨hg.os,hg.tape,hg.output,hg.size,fun k hk=>hg.block k (Zl hk hB) (fun e=>absurd (hr k e.symm) (by omega))⟩
structure Cp where
 obs:Array Obj
 dr:Nat
instance:Nonempty Cp:=⟨⟨#[],0⟩⟩
def calm (w:Zb)(p:Cp):Zb:= {w with heap:=w.heap++p.obs,drawn:=p.dr}
theorem AK {w W:Zb}(h:Zm w.heap.size w W):∃p,W=calm w p:=by
 refine⟨⟨W.heap.extract w.heap.size W.heap.size,W.drawn⟩,?_⟩;obtain⟨h1,h2,h3,h4,h5⟩:=h;cases W with
 |mk heap tape drawn os output=>
  simp only at h1 h2 h3 h4 h5;subst h1 h2 h3;have:heap=w.heap++heap.extract w.heap.size heap.size:=by
   apply Array.ext_getElem?;intro i;by_cases hi:i<w.heap.size
   ·rw[zg hi,h5 i hi]
   ·rw[Y7 (by omega),Array.getElem?_extract]
    split
    ·rw[show w.heap.size+(i - w.heap.size)=i by omega]
    ·rw[YG (by omega)]
  unfold calm;simp only;rw[←this]
theorem BS (w:Zb)(p:Cp):Zm w.heap.size w (calm w p):=
 ⟨rfl,rfl,rfl,by simp[calm],fun k hk=>by simp[calm,zg hk]⟩
theorem Aq {w:Zb}(p:Cp){a:Addr}{v:Zc}(h:w.cell? a=some v):(calm w p).cell? a=some v:=
 ((BS w p).cell (ZH w _ h)).trans h
theorem AU {P:Zp}{id:Nat}{Q:Exit→Act→Zb→Prop}{a:Act}{w:Zb}{l:List Oper}(hm:P.follows .mixedOrders=true)(hB:Region.lexB .any l.toArray=true)
  (h:wpQuiet P l.toArray (fun w'=>∃p,w'=calm w p) (fun a'=>∀w',(∃p,w'=calm w p)→Q .normal a' w') l a):(zH id l.toArray true).wp P Q a w:=
 wp_region_quiet (C:=fun w'=>∃p,w'=calm w p) hm hB ⟨⟨#[],w.drawn+1⟩,by simp[calm]⟩ (by simpa using h)
theorem BD {P:Zp}{f:YT}{args:Array Zc}{w:Zb}{p:Cp}{v:Zc}(h:Calls P f args (calm w p) fun e w'=>e=.returned v∧Zm (calm w p).heap.size (calm w p) w'):
  Calls P f args (calm w p) fun e V_=>e=.returned v∧∃q,V_=calm w q:=
 h.mono fun _ _ ⟨he,hb⟩=>⟨he,AK ((BS w p).trans (hb.mono (BS w p).size))⟩
structure FW (w:Zb)(n1:Nat)(xs:Array Zc)(m:Nat→Int)(wr:Zb):Prop where
 below:Zm w.heap.size w wr
 box:wr.heap[w.heap.size]?=some (.cells xs 112 (0,0))
 row:wr.heap[n1]?=some (.cells (Td m) 150 (0,0))
theorem FW.later {w wr W:Zb}{n1:Nat}{xs:Array Zc}{m:Nat→Int}(h:FW w n1 xs m wr)(hB:Zm wr.heap.size wr W):FW w n1 xs m W:=
 ⟨h.below.trans (hB.mono h.below.size),(hB.block _ (Za.1 h.box).1).trans h.box,(hB.block _ (Za.1 h.row).1).trans h.row⟩
section
variable {P:Zp}{ops:Array Oper}{Q:Exit→Act→Zb→Prop}{md:YD}{S:Zb→Prop}{T:Nat→Zb→Prop}
def Co (P:Zp)(md:YD)(ops:Array Oper)(Q:Exit→Act→Zb→Prop)(T:Nat→Zb→Prop):Nat→Array Bool→Act→Zb→Prop
 |0,listed,a,w=>zh md ops listed=[]∧Q .normal a w
 |f+1,listed,a,w=>(zh md ops listed=[]→Q .normal a w)∧∀i∈zh md ops listed,wpOp P ops Q i (fun a' w'=>T i w'∧Co P md ops Q T f (listed.setIfInBounds i true) a' w') a w
theorem Jq:∀(f:Nat) (listed:Array Bool) (a:Act) (w:Zb),Co P md ops Q T f listed a w→wpAny P md ops Q f listed a w
 |0,_,_,_,h=>h
 |f+1,_,_,_,h=>⟨h.1,fun i hi=>wpOp_mono (fun a' w' x=>Jq f _ a' w' x.2) (h.2 i hi)⟩
def VA (md:YD)(ops:Array Oper)(j i:Nat):Bool:=match ops[j]? with|some o=>o.after.any fun e=>zZ md e&&e.on==i|none=>false
theorem ji {j i:Nat}{o:Oper}(ho:ops[j]?=some o)(h:∀e∈o.after,zZ md e=true→e.on≠i):VA md ops j i=false:=by
 unfold VA;rw[ho];cases hb:o.after.any fun e=>zZ md e&&e.on==i with
 |false=>exact hb
 |true=>
  obtain⟨e,he,hx⟩:=Array.any_eq_true'.1 hb;simp only[ZD,beq_iff_eq]at hx;exact absurd hx.2 (h e he hx.1)
theorem Nc {i:Nat}{oi:Oper}{v:Zc}(hi:ops[i]?=some oi)(hs:Yv ops=true)(hQ:∀c a w,Q (.panic c) (a.put oi.dst v) w→Q (.panic c) a w)
  (hT:∀w,S w→T i w) (nN:∀j,VA md ops j i=true∨∀w,T j w→S w):
  ∀(f:Nat) (listed:Array Bool) (a:Act) (w:Zb),ZaS md ops listed i=true→i∈zh md ops listed→YieldsIf P ops S oi v a→S w→
   Co P md ops Q T f (listed.setIfInBounds i true) (a.put oi.dst v) w→Co P md ops Q T (f+1) listed a w:=by
 have Ig:=Region.noSelect_spec hs;have key:∀(f:Nat) (listed:Array Bool) (a:Act) (w:Zb),(∀j oj,ops[j]?=some oj→j≠i→listed.getD j true=false→(∀e∈oj.after,zZ md e=true→e.on≠i)→oi.apart ops oj=true)→
   i∈zh md ops listed→YieldsIf P ops S oi v a→S w→Co P md ops Q T f (listed.setIfInBounds i true) (a.put oi.dst v) w→Co P md ops Q T (f+1) listed a w:=by
  intro f
  induction f with
  |zero=>
   intro listed a w _ hr hy hS H;refine⟨fun h=>(by rw[h]at hr;cases hr),fun j hj=>?_⟩;by_cases Lc:j=i
   ·subst Lc;exact hy.wpOp hi hS ⟨hT _ hS,H⟩
   ·have:=ready_mono hj Lc
    rw[H.1]at this;cases this
  |succ f ih=>
   intro listed a w OT hr hy hS H;refine⟨fun h=>(by rw[h]at hr;cases hr),fun j hj=>?_⟩;by_cases Lc:j=i
   ·subst Lc;exact hy.wpOp hi hS ⟨hT _ hS,H⟩
   ·have h1:=H.2 j (ready_mono hj Lc)
    obtain⟨nO,oj,kE,Fv⟩:=mem_ready.1 hj;have hun:listed.getD i false=false:=by
     have h0:=(mem_ready.1 hr).1;rcases Zae i listed.size with h'|h'
     ·simp[h']at h0⊢;exact h0
     ·simp[YG h']
    have sg:∀e∈oj.after,zZ md e=true→e.on≠i:=fun e he hb heq=>by
     have:=Fv e he hb;rw[heq,hun]at this;cases this
    have kF:∀w,T j w→S w:=(nN j).resolve_left (by rw[ji kE sg];decide);have h2:=wpOp_putIf kE (OT j oj kE Lc nO sg) (fun cs b=>Ig i oi cs b hi) (fun cs b=>Ig j oj cs b kE) hQ hy h1;have dp:∀k ok,ops[k]?=some ok→k≠i→(listed.setIfInBounds j true).getD k true=false→
      (∀e∈ok.after,zZ md e=true→e.on≠i)→oi.apart ops ok=true:=fun k ok hk Tb nP Kh=>by
     refine OT k ok hk Tb ?_ Kh;by_cases dt:j=k
     ·subst dt;exact nO
     ·rw[getD_set_ne true dt]at nP;exact nP
    refine wpOp_mono (fun a' w' h3=>⟨h3.2.1,ih (listed.setIfInBounds j true) a' w' dp (ready_mono hr (Ne.symm Lc)) h3.1 (kF _ h3.2.1) ?_⟩) h2;rw[Array.setIfInBounds_comm _ _ Lc];exact h3.2.2
 intro f listed a w hf;exact key f listed a w (Region.free_spec hi hf)
def DR (P:Zp)(ops:Array Oper)(Q:Exit→Act→Zb→Prop)(T:Nat→Zb→Prop):List (Bool×Nat)→Act→Zb→Prop
 | [],a,w=>Q .normal a w
 |(false,i)::r,a,w=>wpOp P ops Q i (fun a' w'=>T i w'∧DR P ops Q T r a' w') a w
 |(true,i)::r,a,w=>∃o v,ops[i]?=some o∧YieldsIf P ops (fun _=>True) o v a∧DR P ops Q T r (a.put o.dst v) w
def yN (md:YD)(ops:Array Oper)(lates:List Nat):List (Bool×Nat)→Array Bool→Bool
 | [],listed=>(zh md ops listed).isEmpty
 |(false,i)::r,listed=>decide (zh md ops listed=[i])&&yN md ops lates r (listed.setIfInBounds i true)
 |(true,i)::r,listed=>(zh md ops listed).contains i&&ZaS md ops listed i&&lates.contains i&&yN md ops lates r (listed.setIfInBounds i true)
def Fq (lates:List Nat)(S:Zb→Prop)(i:Nat)(w:Zb):Prop:=lates.contains i=true∨S w
theorem Ou {lates:List Nat}(Ig:Yv ops=true)(hQ:∀c a d v w,Q (.panic c) (Act.put a d v) w→Q (.panic c) a w):
  ∀(hs:List (Bool×Nat)) (listed:Array Bool) (a:Act) (w:Zb),yN md ops lates hs listed=true→DR P ops Q (Fq lates S) hs a w→Co P md ops Q (Fq lates S) hs.length listed a w
 | [],_,_,_,hB,h=>⟨by simpa[yN]using hB,h⟩
 |(false,i)::r,listed,a,w,hB,h=>by
  simp only[yN,ZD,decide_eq_true_eq]at hB;refine⟨fun h0=>(by rw[hB.1]at h0;cases h0),fun j hj=>?_⟩;rw[hB.1]at hj;have:j=i:=by simpa using hj
  subst this;exact wpOp_mono (fun a' w' x=>⟨x.1,Ou Ig hQ r _ a' w' hB.2 x.2⟩) h
 |(true,i)::r,listed,a,w,hB,h=>by
  simp only[yN,ZD]at hB;obtain⟨o,v,ho,hy,h⟩:=h;exact Nc (S:=fun _=>True) (f:=r.length) ho Ig (fun c a w x=>hQ c a o.dst v w x) (fun w _=>.inl hB.1.2) (fun j=>.inr fun _ _=>trivial) listed a w hB.1.1.2 (by simpa using hB.1.1.1) hy trivial (Ou Ig hQ r _ _ w hB.2 h)
def ltB (md:YD)(ops:Array Oper)(lates:List Nat)(next:Array Bool→Bool):List Nat→Array Bool→Bool
 | [],listed=>next listed
 |i::r,listed=>(zh md ops listed).contains i&&ZaS md ops listed i&&(lates.all fun j=>VA md ops j i)&&ltB md ops lates next r (listed.setIfInBounds i true)
def Qw (o:Oper):Bool:=match o.op with| .load .. | .fieldAddr .. | .indexAddr .. | .move .. =>true|_=>false
def Mg (P:Zp)(ops:Array Oper)(S:Zb→Prop)(K:Act→Prop):List Nat→Act→Prop
 | [],a=>K a
 |i::r,a=>∃o v,ops[i]?=some o∧YieldsIf P ops S o v a∧Mg P ops S K r (a.put o.dst v)
theorem K1 {lates:List Nat}{w:Zb}{next:Array Bool→Bool}{K:Act→Prop}{g:Nat}(Ig:Yv ops=true)(hQ:∀c a d v w,Q (.panic c) (Act.put a d v) w→Q (.panic c) a w)(hS:S w)
  (hK:∀listed a,next listed=true→K a→Co P md ops Q (Fq lates S) g listed a w):
  ∀(ls:List Nat) (listed:Array Bool) (a:Act),ltB md ops lates next ls listed=true→Mg P ops S K ls a→Co P md ops Q (Fq lates S) (g+ls.length) listed a w
 | [],listed,a,hB,h=>hK listed a hB h
 |i::r,listed,a,hB,h=>by
  simp only[ltB,ZD]at hB;obtain⟨o,v,ho,hy,h⟩:=h;refine Nc (S:=S) (f:=g+r.length) ho Ig (fun c a w x=>hQ c a o.dst v w x) (fun w x=>.inr x) (fun j=>?_) listed a w hB.1.1.2 (by simpa using hB.1.1.1) hy hS (K1 Ig hQ hS hK r _ _ hB.2 h);by_cases hj:lates.contains j=true
  ·exact .inl (List.all_eq_true.1 hB.1.2 j (by simpa using hj))
  ·exact .inr fun w x=>x.resolve_left hj
theorem C5 {id:Nat}{a:Act}{w:Zb}{l:List Oper}(lates:List Nat)(hs:List (Bool×Nat))(ls:List Nat)(hm:P.follows .mixedOrders=true)(hQ:∀c a d v w,Q (.panic c) (Act.put a d v) w→Q (.panic c) a w)
  (hB:(Yv l.toArray&&decide (hs.length+ls.length=l.toArray.size)&&ltB .any l.toArray lates (yN .any l.toArray lates hs) ls (Yd l.toArray.size false))=true) (hS:S w.drew)
  (h:Mg P l.toArray S (fun a'=>DR P l.toArray Q (Fq lates S) hs a' w.drew) ls a):(zH id l.toArray true).wp P Q a w:=by
 simp only[ZD,decide_eq_true_eq]at hB;refine wp_region_any hm (Jq (T:=Fq lates S) _ _ _ _ ?_);have:=K1 hB.1.1 hQ hS (fun listed a h1 h2=>Ou hB.1.1 hQ hs listed a w.drew h1 h2) ls _ a hB.2 h;rw[hB.1.2]at this;exact this
theorem aj {o:Oper}(hl:Qw o=true){e:Operand→Zc}{w w':Zb}{n:Next}(h:(execOp e o).run P w=.ok n w'):∃v,n=.value v:=by
 unfold Qw at hl;unfold execOp at h;split at hl<;>first|cases hl|skip
 all_goals
  rename_i hop;simp only[hop,za,Sem.run_pure]at h
  first
   |(simp at h;exact⟨_,h.1.symm⟩)
   |(generalize Sem.run _ _ _=r at h;cases r<;>simp[zB]at h;exact⟨_,h.1.symm⟩)
theorem VB {o:Oper}(hl:Qw o=true){a:Act}{v:Zc}(hw:zU o (yielded ops a.tmps)=true)(h:∀w,S w→o.quietAt P a S w v):YieldsIf P ops S o v a:=by
 refine .inl ⟨hw,fun w hS=>?_⟩;have:=h w hS;unfold Oper.quietAt at this;generalize hr:(execOp a.eval o).run P w=r at this⊢;cases r with
 |ok n w'=>
  obtain⟨u,rfl⟩:=aj hl hr;obtain⟨rfl,rfl⟩:=this
  rfl
 |halt x w'=>exact this.elim
theorem Bf {K:Act→Prop}:∀(ls:List Nat) (a:Act),(ls.all fun i=>match ops[i]? with|some o=>Qw o|none=>false)=true→wpQuiet P ops S K (ls.filterMap fun i=>ops[i]?) a→Mg P ops S K ls a
 | [],a,_,h=>h
 |i::r,a,hl,h=>by
  simp only[List.all_cons,ZD]at hl;cases ho:ops[i]? with
  |none=>rw[ho]at hl;cases hl.1
  |some o=>
   rw[ho]at hl;rw[zQ,ho]at h;replace h:wpQuiet P ops S K (o::r.filterMap fun i=>ops[i]?) a:=h;unfold wpQuiet at h;split at h
   ·next hw=>
    obtain⟨v,h1,h2⟩:=h;exact⟨o,v,ho,VB hl.1 hw h1,Bf r _ hl.2 h2⟩
   ·next hw=>exact⟨o,Ze,ho,.inr ⟨by simpa using hw,rfl⟩,Bf r _ hl.2 h⟩
theorem Ee {i:Nat}{r:List (Bool×Nat)}{o:Oper}{f:YT}{args:Array Zc}{a:Act}{w:Zb}(ho:ops[i]?=some o)(hg:o.guard=none)(hr:(execOp a.eval o).run P w=.ok (.enter f args) w)
  (hc:Calls P f args w fun e w'=>∃v,e=.returned v∧T i w'∧DR P ops Q T r (a.put o.dst v) w'):DR P ops Q T ((false,i)::r) a w:=by
 unfold DR wpOp;simp only[ho];rw[if_pos (by simp[zU,hg])];refine .inl ?_;unfold Oper.wp;rw[hr,Oper.upon_enter];refine hc.mono fun e w' ⟨v,he,h1,h2⟩=>?_;subst he;exact⟨h1,h2⟩
theorem Nd {i:Nat}{r:List (Bool×Nat)}{o:Oper}{v:Zc}{a:Act}{w:Zb}(ho:ops[i]?=some o)(hg:o.guard=none)(hr:∀w,(execOp a.eval o).run P w=.ok (.value v) w)
  (h:DR P ops Q T r (a.put o.dst v) w):DR P ops Q T ((true,i)::r) a w:=
 ⟨o,v,ho,.inl ⟨by simp[zU,hg],fun w _=>hr w⟩,h⟩
theorem E7 {i:Nat}{r:List (Bool×Nat)}{o:Oper}{v:Zc}{a:Act}{w:Zb}(ho:ops[i]?=some o)(hg:o.guard=none)(hr:(execOp a.eval o).run P w=.ok (.value v) w)(hT:T i w)
  (h:DR P ops Q T r (a.put o.dst v) w):DR P ops Q T ((false,i)::r) a w:=by
 unfold DR wpOp;simp only[ho];rw[if_pos (by simp[zU,hg])];refine .inl ?_;unfold Oper.wp;rw[hr,Oper.upon_value];exact⟨hT,h⟩
theorem Ky {i:Nat}{r:List (Bool×Nat)}{o:Oper}{a:Act}{w w':Zb}(ho:ops[i]?=some o)(hg:o.guard=none)(hr:(execOp a.eval o).run P w=.ok .skip w')(hT:T i w')
  (h:DR P ops Q T r (a.put o.dst Ze) w'):DR P ops Q T ((false,i)::r) a w:=by
 unfold DR wpOp;simp only[ho];rw[if_pos (by simp[zU,hg])];refine .inl ?_;unfold Oper.wp;rw[hr,Oper.upon_skip];exact⟨hT,h⟩
def F0 (ops:Array Oper):List (Bool×Nat)→List Oper
 | []=> []
 |(_,i)::r=>match ops[i]? with|some o=>o::F0 ops r|none=>F0 ops r
theorem K2:∀(hs:List (Bool×Nat)) (a:Act) (w:Zb),(hs.all fun x=> !x.1&&(ops[x.2]?).isSome)=true→(∀x∈hs,∀w,T x.2 w)→wpList P ops Q (F0 ops hs) a w→DR P ops Q T hs a w
 | [],_,_,_,_,h=>h
 |(true,i)::r,a,w,hB,hT,h=>by simp at hB
 |(false,i)::r,a,w,hB,hT,h=>by
  simp only[List.all_cons,ZD]at hB;obtain⟨o,ho⟩:=Option.isSome_iff_exists.1 hB.1.2;unfold F0 at h;rw[ho]at h;have hw:wpOp P ops Q i (wpList P ops Q (F0 ops r)) a w:=by unfold wpOp;simp only[ho];exact h
  exact wpOp_mono (fun a' w' x=>⟨hT _ (zF ..) _,K2 r a' w' hB.2 (fun j hj=>hT j (zr _ hj)) x⟩) hw
end
structure Cq where
 obs:Array Obj
 dr:Nat
 obj:Obj
instance:Nonempty Cq:=⟨⟨#[],0,.cells #[] 0⟩⟩
def R6 (w:Zb)(q:Nat)(p:Cq):Zb:= {w with heap:=(w.heap++p.obs).setIfInBounds q p.obj,drawn:=p.dr}
structure Cf (q:Nat)(w W:Zb):Prop where
 os:W.os=w.os
 tape:W.tape=w.tape
 output:W.output=w.output
 size:w.heap.size≤W.heap.size
 block:∀k,k<w.heap.size→k≠q→W.heap[k]?=w.heap[k]?
theorem Cf.refl (q:Nat)(w:Zb):Cf q w w:=⟨rfl,rfl,rfl,Zj _,fun _ _ _=>rfl⟩
theorem Cf.below {q:Nat}{w W W':Zb}(h:Cf q w W)(hB:Zm W.heap.size W W'):Cf q w W':=
 ⟨hB.os.trans h.os,hB.tape.trans h.tape,hB.output.trans h.output,Zx h.size hB.size,fun k hk hq=>(hB.block k (Zl hk h.size)).trans (h.block k hk hq)⟩
theorem Cf.set {q i:Nat}{w W:Zb}{v:Zc}(h:Cf q w W):Cf q w (W.setCell ⟨q,i,none⟩ v):=
 ⟨h.os,h.tape,h.output,by simpa using h.size,fun k hk hq=>(AW hq _).trans (h.block k hk hq)⟩
theorem BG {q:Nat}{w W:Zb}(h:Cf q w W)(hq:q<w.heap.size):∃p,W=R6 w q p:=by
 have hqW:q<W.heap.size:=Zl hq h.size;refine⟨⟨W.heap.extract w.heap.size W.heap.size,W.drawn,W.heap[q]⟩,?_⟩;obtain⟨h1,h2,h3,h4,h5⟩:=h;cases W with
 |mk heap tape drawn os output=>
  simp only at h1 h2 h3 h4 h5 hqW;subst h1 h2 h3;have:heap=(w.heap++heap.extract w.heap.size heap.size).setIfInBounds q heap[q]:=by
   apply Array.ext_getElem?;intro i;by_cases hiq:q=i
   ·subst hiq
    rw[Z9 (by simp;omega),ZB hqW]
   ·rw[Zk hiq]
    by_cases hi:i<w.heap.size
    ·rw[zg hi,h5 i hi (fun e=>hiq e.symm)]
    ·rw[Y7 (by omega),Array.getElem?_extract]
     split
     ·rw[show w.heap.size+(i - w.heap.size)=i by omega]
     ·rw[YG (by omega)]
  unfold R6;simp only;rw[←this]
theorem B_ {w:Zb}{q:Nat}(p:Cq){a:Addr}{v:Zc}(h:w.cell? a=some v)(hq:a.block≠q):(R6 w q p).cell? a=some v:=by
 have hb:=ZH w _ h;unfold zJ at h⊢;have:(R6 w q p).heap[a.block]?=w.heap[a.block]? :=by
  unfold R6;simp only;rw[Zk (Ne.symm hq),zg hb]
 rw[this];exact h
theorem Jr {w:Zb}{base:Nat}{e:Zs}{size n:Nat}{v:Zc}{xs:List Zc}(h:w.ownsRow base e size v n xs):
  ∃a c,v=.slice a n c∧n≤c∧c≤maxLen∧∀j u,xs[j]?=some u→∃b,a=some ⟨b,0,none⟩∧Cy base w b∧w.cell? ⟨b,j,none⟩=some u:=by
 rcases h.2 with⟨rfl,rfl⟩|⟨g,cap,cur,rfl,hb,hg,h1,h2,h3,h4⟩
 ·refine⟨none,0,rfl,Zj _,Zt _,fun i u hu=>?_⟩
  have:=h.1;have:xs=[]:=Y8 (by simpa using this);subst this;cases hu
 ·refine⟨_,_,rfl,h1,h2,fun i u hu=>⟨g,rfl,⟨hb,(Za.1 hg).1⟩,?_⟩⟩
  have hi:i<n*size:=by
   have:=(Zo.1 hu).1;rw[h.1]at this;omega
  rw[←h4,ZW (by omega)]at hu;exact ch hg (by simpa using hu)
section
variable {α:Type}{S:Nat→Prop}{R R':Zb→List Zc→α→Prop}{k:Nat}{w w':Zb}{v:Zc}{l:List α}
theorem fP {i k j n:Nat}(hi:i<n)(hj:j<k):i*k+j<n*k:=by
 have:(i+1)*k≤n*k:=Nat.mul_le_mul_right k hi;rw[Nat.add_mul]at this;omega
theorem Sl.row {a:Option Addr}{c:Nat}(h:Sl S R k w (.slice a l.length c) l)(hk:0<k)(ad:Addr)(ha:a=some ad):
  ∃news:List Zc,news.length=l.length*k∧(∀i x,l[i]?=some x→R w ((news.drop (i*k)).take k) x)∧∀j u,news[j]?=some u→w.cell? (ad.add j)=some u:=by
 obtain⟨a',c',h1,h2,h3,h4⟩:=h;cases h1;subst ha;refine⟨(ZaB (l.length*k)).map fun j=>(w.cell? (ad.add j)).getD Ze,by simp,fun i x hx=>?_,fun j u hu=>?_⟩
 ·obtain⟨b,o,cs,e,_,hl,hc,hr⟩:=h4 i x hx
  cases e;have hi:=(Zo.1 hx).1;refine Eq.mpr (congrArg (fun y=>R w y x) (?_:_=cs)) hr;apply YM;intro j;by_cases hj:j<k
  ·rw[ZW hj,YA,ZaT,List.getElem?_range (fP hi hj)]
   have:cs[j]?=some (cs[j]'(by omega)):=Z7 _;rw[this];have:=hc j _ this;show some ((w.cell? ((⟨b,o,none⟩:Addr).add (i*k+j))).getD Ze)=_;rw[show(⟨b,o,none⟩:Addr).add (i*k+j)=⟨b,o+i*k+j,none⟩ by rw[Nat.add_assoc];unfold Addr.add;split<;>simp_all,this]
   rfl
  ·rw[ZS (by simp;omega),ZS (by omega)]
 ·obtain⟨hj,rfl⟩:=Zo.1 hu
  simp only[List.length_map,List.length_range]at hj;have hi:j / k<l.length:=Nat.div_lt_of_lt_mul (by rwa[Nat.mul_comm]);obtain⟨b,o,cs,e,_,hl,hc,hr⟩:=h4 (j / k) _ (Z7 hi);cases e;have hm:=Nat.mod_lt j hk;have:=hc (j % k) _ (Z7 (by omega));have lx:j / k*k+j % k=j:=by rw[Nat.mul_comm];exact Nat.div_add_mod j k
  rw[Nat.add_assoc,lx]at this;simp only[List.getElem_map,List.getElem_range];rw[show(⟨b,o,none⟩:Addr).add j=⟨b,o+j,none⟩ by unfold Addr.add;split<;>simp_all,this]
  rfl
theorem Ov {base:Nat}{e:Zs}{xs:List Zc}(hk:0<k)(h:w.ownsRow base e k v l.length xs)(hR:∀i x,l[i]?=some x→R w ((xs.drop (i*k)).take k) x):Sl (Cy base w) R k w v l:=by
 obtain⟨a,c,h1,h2,h3,h4⟩:=Jr h;refine⟨a,c,h1,h2,h3,fun i x hx=>?_⟩;have hi:=(Zo.1 hx).1;have hl:=h.1;have hlen:((xs.drop (i*k)).take k).length=k:=by
  have:(i+1)*k≤l.length*k:=Nat.mul_le_mul_right k hi;rw[Nat.add_mul]at this;simp;omega
 have ak:∀j u,((xs.drop (i*k)).take k)[j]?=some u→xs[i*k+j]?=some u:=fun j u hj=>by
  have dt:j<k:=by have:=(Zo.1 hj).1;omega
  rwa[ZW dt,YA]at hj
 obtain⟨b,hb,hn,_⟩:=h4 (i*k+0) _ (ak 0 _ (Z7 (by omega)));refine⟨b,0,_,hb,hn,hlen,fun j u hu=>?_,hR i x hx⟩;obtain⟨b',GL,_,hc⟩:=h4 _ _ (ak j u hu);rw[hb]at GL;cases GL;rwa[Ym]
def nQ (R:Zb→List Zc→α→Prop):Prop:=∀w cs x,R w cs x→∀u∈cs,u.oneCell'=true
theorem row_one {news:List Zc}(hk:0<k)(hn:news.length=l.length*k)(h:∀i x,l[i]?=some x→R w ((news.drop (i*k)).take k) x)(h1:nQ R):∀u∈news,u.oneCell'=true:=by
 intro u hu;obtain⟨j,hj,rfl⟩:=Zaq hu;have hi:j / k<l.length:=Nat.div_lt_of_lt_mul (by rw[Nat.mul_comm, ←hn];exact hj);refine h1 _ _ _ (h (j / k) _ (Z7 hi)) _ ?_;have hm:=Nat.mod_lt j hk;have lx:j / k*k+j % k=j:=by rw[Nat.mul_comm];exact Nat.div_add_mod j k
 refine Yh (i:=j % k) ?_;rw[ZW hm,YA,lx];exact Z7 hj
end
theorem nR:nQ Ri:=fun _ _ _ h u hu=>by unfold Ri at h;subst h;simp at hu;subst hu;rfl
theorem au:nQ Rp:=fun _ _ _ h u hu=>by unfold Rp at h;subst h;simp at hu;rcases hu with rfl|rfl<;>rfl
theorem afn {S:Nat→Prop}:nQ (Rs S):=fun _ _ _ h u hu=>by
 obtain⟨v2,v3,rfl,h2,h3⟩:=h;obtain⟨a2,c2,rfl,_⟩:=h2.val;obtain⟨a3,c3,rfl,_⟩:=h3.val;simp at hu;rcases hu with rfl|rfl|rfl|rfl|rfl<;>rfl
def du {α:Type}(R:Zb→List Zc→α→Prop)(k:Nat)(w:Zb)(l:List α)(e:Ending)(w':Zb):Prop:=∃v',e=.returned v'∧Zm w.heap.size w w'∧Sl (Cy w.heap.size w') R k w' v' l
theorem dv:(Tryz.prog.info? 80).map (fun i=>(i.zero,i.size,i.bytes))=some (some (.agg #[.int .i64 0,.int .i64 0]),2,16):=by kernel_rfl
theorem VC:(Tryz.prog.info? 64).map (fun i=>(i.zero,i.size,i.bytes))=some (some (.agg #[.int .i64 0,.int .i64 0]),2,16):=by kernel_rfl
theorem dy:(Tryz.prog.info? 62).map (fun i=>(i.zero,i.size,i.bytes))=some (some (.agg #[.int .i64 0,.int .i64 0,.slice none 0 0,.slice none 0 0,.int .i64 0]),5,72):=by kernel_rfl
theorem jk {S:Nat→Prop}{w:Zb}{v:Zc}{l:List Int}(h:Sl S Ri 1 w v l)(hlen:l.length≤1000):Calls Lp 106 #[v] w (du Ri 1 w l):=by
 obtain⟨a,c,rfl,l1,m1⟩:=h.val;obtain⟨i0,hi,Fg,El,EN⟩:=YC Lu;have hu:=CM ZaF;have q22:∀(w:Zb) (a:Option Addr) (n c n' c':Nat),(binOp .eql 22 (.slice a n c) (.slice none n' c')).run Lp w=.ok (.bool a.isNone) w:=fun w a n c n' c'=>ZaH w _ _ a n c n' c' hu;cases a with
 |none=>
  have hl:l=[]:=by
   cases l with
   |nil=>rfl
   |cons x r=>
    obtain⟨a',c',h1,_,_,h4⟩:=h;cases h1;obtain⟨b,o,cs,e,_⟩:=h4 0 x rfl;cases e
  subst hl;go_enter Lp.func106,rV;go_wp2;go_ret;exact⟨_,rfl,Zi _ _,none,0,rfl,Zj _,Zt _,fun i x hx=>by cases hx⟩
 |some ad=>
  obtain⟨news,hn,hR,hc⟩:=Sl.row h (by decide) ad rfl;have h1:=row_one (by decide) hn hR nR;have HC:=Zh hc;have HR:=Zh hR;clear hc hR;go_enter Lp.func106,rV;go_wp2_with (at_builtin;refine ZaV _ rfl _ _ 22 rfl w.heap.size 3 i0 (.int .i64 0) 1 8 hu (D3 hi) Fg El EN rfl (by decide) _ 0 [] rfl (Yq w #[] 0 (Zj _) (Zt _) rfl) ad l.length c news rfl hn (fun j u hj=>ca (HC.out j u hj) _) h1 (by unfold maxLen;omega) (by omega) (by simp) ?_;intro v' w1 Be AG Fi);have hB:Zm w.heap.size w w1:=Br (bA (Zi _ _)) AG (fun k hk=>by cases hk;exact Zj _) (by simp);have U2:Sl (Cy w.heap.size w1) Ri 1 w1 v' l:=Ov (by decide) (by rw[Ym,zE]at Be;exact Be) (fun i x hx=>HR.out i x hx);clear Be AG Fi;go_ret;exact⟨_,rfl,hB,U2⟩
theorem alF {S:Nat→Prop}{w:Zb}{v:Zc}{l:List (Int×Int)}(h:Sl S Rp 2 w v l)(hlen:l.length≤1000):Calls Lp 166 #[v] w (du Rp 2 w l):=by
 obtain⟨a,c,rfl,l1,m1⟩:=h.val;obtain⟨i0,hi,Fg,El,EN⟩:=YC dv;have hu:=CM Tryz.underlying23;have q22:∀(w:Zb) (a:Option Addr) (n c n' c':Nat),(binOp .eql 23 (.slice a n c) (.slice none n' c')).run Lp w=.ok (.bool a.isNone) w:=fun w a n c n' c'=>ZaH w _ _ a n c n' c' hu;cases a with
 |none=>
  have hl:l=[]:=by
   cases l with
   |nil=>rfl
   |cons x r=>
    obtain⟨a',c',h1,_,_,h4⟩:=h;cases h1;obtain⟨b,o,cs,e,_⟩:=h4 0 x rfl;cases e
  subst hl;go_enter Lp.func166,afa;go_wp2;go_ret;exact⟨_,rfl,Zi _ _,none,0,rfl,Zj _,Zt _,fun i x hx=>by cases hx⟩
 |some ad=>
  obtain⟨news,hn,hR,hc⟩:=Sl.row h (by decide) ad rfl;have h1:=row_one (by decide) hn hR au;have HC:=Zh hc;have HR:=Zh hR;clear hc hR;go_enter Lp.func166,afa;go_wp2_with (at_builtin;refine ZaV _ rfl _ _ 23 rfl w.heap.size 80 i0 (.agg #[.int .i64 0,.int .i64 0]) 2 16 hu (D3 hi) Fg El EN rfl (by decide) _ 0 [] rfl (Yq w #[] 0 (Zj _) (Zt _) rfl) ad l.length c news rfl hn (fun j u hj=>ca (HC.out j u hj) _) h1 (by unfold maxLen;omega) (by omega) (by simp) ?_;intro v' w1 Be AG Fi);have hB:Zm w.heap.size w w1:=Br (bA (Zi _ _)) AG (fun k hk=>by cases hk;exact Zj _) (by simp);have U2:Sl (Cy w.heap.size w1) Rp 2 w1 v' l:=Ov (by decide) (by rw[Ym,zE]at Be;exact Be) (fun i x hx=>HR.out i x hx);clear Be AG Fi;go_ret;exact⟨_,rfl,hB,U2⟩
theorem alG {S:Nat→Prop}{w:Zb}{v:Zc}{l:List (Int×Int)}(h:Sl S Rp 2 w v l)(hlen:l.length≤1000):Calls Lp 168 #[v] w (du Rp 2 w l):=by
 obtain⟨a,c,rfl,l1,m1⟩:=h.val;obtain⟨i0,hi,Fg,El,EN⟩:=YC VC;have hu:=CM Tryz.underlying60;have q22:∀(w:Zb) (a:Option Addr) (n c n' c':Nat),(binOp .eql 60 (.slice a n c) (.slice none n' c')).run Lp w=.ok (.bool a.isNone) w:=fun w a n c n' c'=>ZaH w _ _ a n c n' c' hu;cases a with
 |none=>
  have hl:l=[]:=by
   cases l with
   |nil=>rfl
   |cons x r=>
    obtain⟨a',c',h1,_,_,h4⟩:=h;cases h1;obtain⟨b,o,cs,e,_⟩:=h4 0 x rfl;cases e
  subst hl;go_enter Lp.func168,afb;go_wp2;go_ret;exact⟨_,rfl,Zi _ _,none,0,rfl,Zj _,Zt _,fun i x hx=>by cases hx⟩
 |some ad=>
  obtain⟨news,hn,hR,hc⟩:=Sl.row h (by decide) ad rfl;have h1:=row_one (by decide) hn hR au;have HC:=Zh hc;have HR:=Zh hR;clear hc hR;go_enter Lp.func168,afb;go_wp2_with (at_builtin;refine ZaV _ rfl _ _ 60 rfl w.heap.size 64 i0 (.agg #[.int .i64 0,.int .i64 0]) 2 16 hu (D3 hi) Fg El EN rfl (by decide) _ 0 [] rfl (Yq w #[] 0 (Zj _) (Zt _) rfl) ad l.length c news rfl hn (fun j u hj=>ca (HC.out j u hj) _) h1 (by unfold maxLen;omega) (by omega) (by simp) ?_;intro v' w1 Be AG Fi);have hB:Zm w.heap.size w w1:=Br (bA (Zi _ _)) AG (fun k hk=>by cases hk;exact Zj _) (by simp);have U2:Sl (Cy w.heap.size w1) Rp 2 w1 v' l:=Ov (by decide) (by rw[Ym,zE]at Be;exact Be) (fun i x hx=>HR.out i x hx);clear Be AG Fi;go_ret;exact⟨_,rfl,hB,U2⟩
def jl (S:Nat→Prop)(w:Zb)(l:List Ax)(en:Ending)(w':Zb):Prop:=∃v' news,en=.returned v'∧Zm w.heap.size w w'∧w'.ownsRow w.heap.size 62 5 v' l.length news∧∀(i:Nat) (x:Ax),l[i]?=some x→Rs S w ((news.drop (i*5)).take 5) x
theorem afo {S:Nat→Prop}{w:Zb}{v:Zc}{l:List Ax}(h:Sl S (Rs S) 5 w v l)(hlen:l.length≤1000)(Ff:0<l.length):Calls Lp 167 #[v] w (jl S w l):=by
 obtain⟨a,c,rfl,l1,m1⟩:=h.val;obtain⟨i0,hi,Fg,El,EN⟩:=YC dy;have hu:=CM Tryz.underlying24;have q22:∀(w:Zb) (a:Option Addr) (n c n' c':Nat),(binOp .eql 24 (.slice a n c) (.slice none n' c')).run Lp w=.ok (.bool a.isNone) w:=fun w a n c n' c'=>ZaH w _ _ a n c n' c' hu;obtain⟨ad,rfl⟩:∃ad,a=some ad:=by
  obtain⟨a',c',h1,_,_,h4⟩:=h;cases h1;obtain⟨b,o,cs,e,_⟩:=h4 0 _ (Z7 Ff);exact⟨_,e⟩
 obtain⟨news,hn,hR,hc⟩:=Sl.row h (by decide) ad rfl;have h1:=row_one (by decide) hn hR afn;have HC:=Zh hc;have HR:=Zh hR;clear hc hR;go_enter Lp.func167,alj;go_wp2_with (at_builtin;refine ZaV _ rfl _ _ 24 rfl w.heap.size 62 i0 (.agg #[.int .i64 0,.int .i64 0,.slice none 0 0,.slice none 0 0,.int .i64 0]) 5 72 hu (D3 hi) Fg El EN rfl (by decide) _ 0 [] rfl (Yq w #[] 0 (Zj _) (Zt _) rfl) ad l.length c news rfl hn (fun j u hj=>ca (HC.out j u hj) _) h1 (by unfold maxLen;omega) (by omega) (by simp) ?_;intro v' w1 Be AG Fi);have hB:Zm w.heap.size w w1:=Br (bA (Zi _ _)) AG (fun k hk=>by cases hk;exact Zj _) (by simp);rw[Ym,zE]at Be;have hO:=Zh Be;clear Be AG Fi;go_ret;exact⟨_,news,rfl,hB,hO.out,fun i x hx=>HR.out i x hx⟩
def Js (ab:Nat→Nat)(now:List Int):Nat→List Int→Nat→Nat
 |_,[],s=>s
 |i,n::r,s=>Js ab now (i+1) r (if n=nth now i then s else s|||IV (ab i) i)
def CG (ab:Nat→Nat)(now l:List Int):Nat:=Js ab now 0 l 0
theorem av {ab:Nat→Nat}{now l:List Int}{k s:Nat}(h:k<l.length):Js ab now k (l.drop k) s=Js ab now (k+1) (l.drop (k+1)) (if nth l k=nth now k then s else s|||IV (ab k) k):=by
 obtain⟨hk,e⟩:=Zo.1 (Bo h);rw[Z4 hk,e]
 rfl
theorem dz {ab:Nat→Nat}{now l:List Int}{k s:Nat}(h:l.length≤k):Js ab now k (l.drop k) s=s:=by
 rw[zf.2 h];rfl
theorem Ul {ab:Nat→Nat}{now:List Int}(ha:∀i,i<3→ab i<8):∀(l:List Int) (k s:Nat),k+l.length≤3→s<8→Js ab now k l s<8
 | [],_,_,_,h=>h
 |n::r,k,s,hk,h=>by
  have h1:k+(r.length+1)≤3:=hk;refine Ul ha r (k+1) _ (by omega) ?_;split
  ·exact h
  ·exact df h (IW (ha k (by omega)) (by omega))
theorem Um {ab:Nat→Nat}{now l:List Int}(ha:∀i,i<3→ab i<8)(hl:l.length≤3):CG ab now l<8:=Ul ha l 0 0 (by omega) (by omega)
theorem vo {a b:Int}(h:(a !=b)=false):a=b:=by simpa using h
theorem vp {a b:Int}(h:(a !=b)=true):a≠b:=by simpa using h
theorem alH {S:Nat→Prop}{w:Zb}{v1 v2 v3 v4 v5 v6:Zc}{c:Aw}{l:List Int}{ab:Nat→Nat}(h:RC S w v1 v2 v3 v4 v5 c)(hl:SI S w v6 l)(hn:l.length≤c.now.length)(hn3:c.now.length≤3)(ha:∀i,i<3→ab i<8)(hS:∀b,S b→b<w.heap.size):
  Calls Lp 139 #[.agg #[v1,v2,v3,v4,v5,.int .u8 (ab 0),.int .u8 (ab 1),.int .u8 (ab 2)],v6] w fun e w'=>e=.returned (.int .u8 (CG ab c.now l))∧Zm w.heap.size w w':=by
 obtain⟨a1,c1,rfl,l1,m1⟩:=h.base.val;obtain⟨a2,c2,rfl,l2,m2⟩:=h.Ag.val;obtain⟨a3,c3,rfl,l3,m3⟩:=h.hooks.val;obtain⟨a4,c4,rfl,l4,m4⟩:=h.Aa.val;obtain⟨a5,c5,rfl,l5,m5⟩:=h.now.val;obtain⟨a6,c6,rfl,l6,m6⟩:=hl.val;have I3:=DN;have hB:Zm w.heap.size w (w.alloc (.cells (Ba (.slice a1 c.base.length c1) (.slice a2 c.Ag.length c2) (.slice a3 c.hooks.length c3) (.slice a4 c.Aa.length c4) (.slice a5 c.now.length c5) ab) 112)):=(Zi _ _).alloc (Zj _) _;have hG:=Bv w (.cells (Ba (.slice a1 c.base.length c1) (.slice a2 c.Ag.length c2) (.slice a3 c.hooks.length c3) (.slice a4 c.Aa.length c4) (.slice a5 c.now.length c5) ab) 112);have HE:=Zh (show CG ab c.now l=Js ab c.now 0 (l.drop 0) 0 from rfl);obtain⟨W,hW⟩:∃W,W=(w.alloc (.cells (Ba (.slice a1 c.base.length c1) (.slice a2 c.Ag.length c2) (.slice a3 c.hooks.length c3) (.slice a4 c.Aa.length c4) (.slice a5 c.now.length c5) ab) 112)):=⟨_,rfl⟩;rw[←hW]at hB hG;have HW:=Zh hW;clear hW;go_enter Lp.func139,al9;go_wp2;rw[show(w.alloc (.cells #[.slice a1 c.base.length c1,.slice a2 c.Ag.length c2,.slice a3 c.hooks.length c3,.slice a4 c.Aa.length c4,.slice a5 c.now.length c5,.int .u8 (ab 0),.int .u8 (ab 1),.int .u8 (ab 2)] 112))=W from HW.out.symm];go_loopg [5,10] l.length (fun g v i wr=>∃k s:Nat,k≤l.length∧g=l.length - k∧i=.int .i64 k∧v=.int .u8 s∧s<8∧Js ab c.now k (l.drop k) s=CG ab c.now l∧wr=W)
 case atStart=>exact⟨0,0,Zt _,rfl,rfl,rfl,by omega,rfl,rfl⟩
 case round=>
  obtain⟨k,s,hk,rfl,rfl,rfl,vq,CO,rfl⟩:=hrel;have hf:=Zh CO;clear CO;by_cases Az:k<l.length
  ·obtain⟨b,o,rfl,hb,hc⟩:=hl.at_ Az
   obtain⟨b',o',rfl,GL,NT⟩:=h.now.at_ (i:=k) (by omega);rw[←hB.cell (p:=⟨b,o+k,none⟩) (hS b hb)]at hc;rw[←hB.cell (p:=⟨b',o'+k,none⟩) (hS b' GL)]at NT;have hd:=Zh (av (ab:=ab) (now:=c.now) (l:=l) (s:=s) Az);have M_:k<3:=by omega
   have Tb:(k:Int)<3:=by omega
   have hkn:k<c.now.length:=by omega
   have g4:=ch (i:=4) hG (v:=.slice (some ⟨b',o',none⟩) c.now.length c5) rfl;have gk:=ch hG (Hh M_);have hak:=ha k M_;go_wp2_with (go_at_call 123;refine(yJ (ab k) k hak M_ _).mono ?_;rintro e w' ⟨rfl,rfl⟩)
   ·have q:(nth l k !=nth c.now k)=true:=by assumption
    rw[ag vq (IW hak M_)];go_roundg (l.length - (k+1))
    case rel=>exact⟨k+1,_,by omega,rfl,by go_num,rfl,df vq (IW hak M_),by rw[←hf.out,hd.out,if_neg (vp q)],rfl⟩
    case measure=>omega
   ·have q:(nth l k !=nth c.now k)=false:=by assumption
    go_roundg (l.length - (k+1))
    case rel=>exact⟨k+1,_,by omega,rfl,by go_num,rfl,vq,by rw[←hf.out,hd.out,if_pos (vo q)],rfl⟩
    case measure=>omega
  ·have e1:s=CG ab c.now l:=by rw[←hf.out,dz (by omega)]
   have E1:=Zh e1;clear hf e1;go_wp2;go_ret;exact⟨by rw[E1.out];rfl,hB⟩
def Fs (s n:Nat):List Int:=((ZaB n).filter (hasB s)).map fun i:Nat=>(i:Int)
def AB (s:Nat):List Int:=Fs s 3
theorem dA (s n:Nat):Fs s (n+1)=if hasB s n=true then Fs s n++ [(n:Int)] else Fs s n:=by
 unfold Fs;rw[List.range_succ,List.filter_append];split
 ·rename_i h;simp[h]
 ·rename_i h;simp[h]
theorem IY (s n:Nat):(Fs s n).length≤n:=by
 unfold Fs;rw[List.length_map];exact Zx (List.length_filter_le _ _) (by simp)
theorem yO {w:Zb}{s:Nat}(hs:s<8):Calls Lp 120 #[.int .u8 s] w fun e w'=>∃v,e=.returned v∧Zm w.heap.size w w'∧SI (Cy w.heap.size w') w' v (AB s)∧(AB s=[]→v=.slice none 0 0):=by
 obtain⟨i0,hi,Fg,El,EN⟩:=YC Lu;have hu:=CM ZaF;have Lz:=Zh (fun k (hk:k<3) w=>yI s k hs hk w);go_enter Lp.func120,al3;go_wp2;go_loopg [3,5] 3 (fun g v i wr=>∃k:Nat,k≤3∧g=3 - k∧i=.int .i64 k∧wr.ownsRow w.heap.size 3 1 v (Fs s k).length ((Fs s k).map (ZT .i64))∧Zm w.heap.size w wr∧(Fs s k=[]→v=.slice none 0 0))
 case atStart=>exact⟨0,Zt _,rfl,rfl,Yz _ _ _ _,Zi _ _,fun _=>rfl⟩
 case round=>
  obtain⟨k,hk,rfl,rfl,AY,hB,afp⟩:=hrel;have hle:=IY s k;have D1:=hB.size;by_cases Az:k<3
  ·have Tb:(k:Int)<3:=by omega
   have HS:=Zh (dA s k);go_wp2_with (first|(go_at_call 122;refine(Lz.out _ Az _).mono ?_;rintro e w' ⟨rfl,rfl⟩)|(at_builtin;refine ZaV _ rfl _ _ 22 rfl w.heap.size 3 i0 (.int .i64 0) 1 8 hu (D3 hi) Fg El EN rfl (by decide) _ _ _ rfl (AY.alloc _) ⟨_,0,none⟩ 1 1 [.int .i64 k] rfl rfl (by intro j u hj;match j,hj with|0,hj=>(simp at hj;subst hj;simp[Addr.add])) (by intro u hu;simp at hu;subst hu;rfl) (by unfold maxLen;omega) (by omega) (by simp;omega) ?_;intro v' w1 Be AG Fi))
   ·have q:hasB s k=true:=by assumption
    have e1:Fs s (k+1)=Fs s k++ [(k:Int)]:=by rw[HS.out,if_pos q]
    have hg:(w'.alloc (.cells #[.int .i64 k] 3)).grownBy w1 u3.ownBlock:=AG;have Bw:Zm w.heap.size w w1:=Br (bA hB) hg (fun k hk=>(AY.lt k hk).1) (by simp;omega);have Cx:w1.ownsRow w.heap.size 3 1 v' (Fs s (k+1)).length ((Fs s (k+1)).map (ZT .i64)):=by
     rw[e1];simpa using Be
    go_roundg (3 - (k+1))
    case rel=>exact⟨k+1,by omega,rfl,by go_num,Cx,Bw,fun h=>absurd h (by rw[e1];simp)⟩
    case measure=>omega
   ·have q:hasB s k=false:=by assumption
    have e1:Fs s (k+1)=Fs s k:=by rw[HS.out,if_neg (by rw[q];decide)]
    go_roundg (3 - (k+1))
    case rel=>exact⟨k+1,by omega,rfl,by go_num,by rw[e1];exact AY,hB,by rw[e1];exact afp⟩
    case measure=>omega
  ·have M_:k=3:=by omega
   subst M_;have hsi:=dm AY;go_wp2;go_ret;exact⟨_,rfl,hB,hsi,afp⟩
theorem alJ (s:Nat)(hs:s<8)(w:Zb):Calls Lp 162 #[.int .u8 s] w fun e w'=>e=.returned (.int .i64 (AB s).length)∧w'=w:=by
 have h1:s=0∨s=1∨s=2∨s=3∨s=4∨s=5∨s=6∨s=7:=by omega
 rcases h1 with rfl|rfl|rfl|rfl|rfl|rfl|rfl|rfl
 all_goals
  go_enter Lp.func162,ali;go_wp2;go_ret;exact⟨by kernel_rfl,rfl⟩
theorem alK (s:Nat)(hs:s<8)(w:Zb):Calls Lp 136 #[.int .u8 s] w fun e w'=>e=.returned (.int .i64 (AB s).length)∧w'=w:=by
 go_enter Lp.func136,al8;go_wp2_with (go_at_call 162;refine(alJ s hs _).mono ?_;rintro e w' ⟨rfl,rfl⟩);go_ret;exact⟨rfl,rfl⟩
def R7 (c:Aw)(i:Int):Bool:=decide ((Aj c.Aa i.toNat).left<1)
def Lh (c:Aw)(t:Nat):Option Int:=(AB t).find? (R7 c)
def afq (t:Nat):Option Int→Zc
 |some i=>.tuple #[.int .u8 0,.iface 121 (.agg #[.int .i64 i])]
 |none=>.tuple #[.int .u8 t,.nilIface]
theorem Un {l:List Int}{f:Int→Bool}{k:Nat}(h:k<l.length):(l.drop k).find? f=if f (nth l k)=true then some (nth l k) else(l.drop (k+1)).find? f:=by
 obtain⟨hk,e⟩:=Zo.1 (Bo h);rw[Z4 hk,e,List.find?_cons];cases f (nth l k)<;>simp
theorem Qx {l:List Int}{k:Nat}(h:k<l.length):nth l k∈l:=Yh (Bo h)
theorem c90 {S:Nat→Prop}{w:Zb}{v1 v2 v3 v4 v5 v6:Zc}{c:Aw}{l:List Int}{ab:Nat→Nat}(h:RC S w v1 v2 v3 v4 v5 c)(hl:SI S w v6 l)(hn:l.length≤c.now.length)(hn3:c.now.length≤3)(ha:∀i,i<3→ab i<8)(hx:∀x,x∈AB (CG ab c.now l)→0≤x∧x<c.Aa.length)(hS:∀b,S b→b<w.heap.size):
  Calls Lp 90 #[.agg #[v1,v2,v3,v4,v5,.int .u8 (ab 0),.int .u8 (ab 1),.int .u8 (ab 2)],v6] w fun e w'=>e=.returned (afq (CG ab c.now l) (Lh c (CG ab c.now l)))∧Zm w.heap.size w w':=by
 obtain⟨a1,c1,rfl,l1,m1⟩:=h.base.val;obtain⟨a2,c2,rfl,l2,m2⟩:=h.Ag.val;obtain⟨a3,c3,rfl,l3,m3⟩:=h.hooks.val;obtain⟨a4,c4,rfl,l4,m4⟩:=h.Aa.val;obtain⟨a5,c5,rfl,l5,m5⟩:=h.now.val;obtain⟨a6,c6,rfl,l6,m6⟩:=hl.val;have I3:=DN;have Bw:Zm w.heap.size w (w.alloc (.cells #[.slice a1 c.base.length c1,.slice a2 c.Ag.length c2,.slice a3 c.hooks.length c3,.slice a4 c.Aa.length c4,.slice a5 c.now.length c5,.int .u8 (ab 0),.int .u8 (ab 1),.int .u8 (ab 2)] 112)):=(Zi _ _).alloc (Zj _) _;have nS:=Um (now:=c.now) (l:=l) ha (by omega);have alM:=Zh (fun W hB=>alH (w:=W) (h.later hB) (hl.later hB) hn hn3 ha (A8 hS hB));obtain⟨t,ht⟩:∃t,t=CG ab c.now l:=⟨_,rfl⟩;rw[←ht]at hx nS⊢;have HT:=Zh ht;clear ht;have HE:=Zh (show Lh c t=((AB t).drop 0).find? (R7 c) from rfl);have hle:(AB t).length≤3:=IY t 3;go_enter Lp.func90,n90;go_wp2_with (first|(go_at_call 139;refine(alM.out _ Bw).mono ?_;rintro e w1 ⟨rfl,Bh⟩;rw[←HT.out])|(go_at_call 120;refine(yO nS).mono ?_;rintro e w2 ⟨v,rfl,BA,hv,hvn⟩;have Dz:=Bh.trans (BA.mono Bh.size);obtain⟨Oh,Lf⟩:=EM Dz;clear hvn;obtain⟨a7,c7,rfl,l7,m7⟩:=hv.val));have Ck:=Bw.trans (Dz.mono Bw.size);have hc4:w2.cell? ⟨w.heap.size,3,none⟩=some (.slice a4 c.Aa.length c4):=by rw[Oh _ _ (by simp)];exact cn _ _ _ rfl
 clear Oh Lf;go_loopg [15] (AB t).length (fun g i wr=>∃k:Nat,k≤(AB t).length∧g=(AB t).length - k∧i=.int .i64 k∧((AB t).drop k).find? (R7 c)=Lh c t∧wr=w2)
 case atStart=>exact⟨0,Zt _,rfl,rfl,rfl,rfl⟩
 case round=>
  obtain⟨k,hk,rfl,rfl,CO,rfl⟩:=hrel;have hf:=Zh CO;clear CO;by_cases Az:k<(AB t).length
  ·obtain⟨b,o,rfl,hb,hc⟩:=hv.at_ Az
   have hd:=Zh (Un (f:=R7 c) Az);obtain⟨Og,T5⟩:=hx _ (Qx Az);obtain⟨x,km⟩:∃x:Nat,nth (AB t) k=x:=⟨(nth (AB t) k).toNat,by omega⟩;rw[km]at hc hd T5 Og;clear km;have jm:x<c.Aa.length:=by omega
   obtain⟨b',o',s2,s3,rfl,GL,_,_,_,_,ku,_,_⟩:=h.Aa.at_ (i:=x) jm;rw[←Ck.cell (p:=⟨b',o'+x*5+4,none⟩) (hS b' GL)]at ku;go_wp2
   ·have q:(Aj c.Aa x).left<1:=by assumption
    have e1:Lh c t=some (x:Int):=by rw[←hf.out,hd.out,if_pos (by simpa[R7]using q)]
    go_ret2;exact⟨by rw[e1];rfl,Ck⟩
   ·have q:1≤(Aj c.Aa x).left:=by assumption
    go_roundg ((AB t).length - (k+1))
    case rel=>exact⟨k+1,by omega,rfl,by go_num,by rw[←hf.out,hd.out,if_neg (by simp[R7];omega)],rfl⟩
    case measure=>omega
  ·have e1:Lh c t=none:=by rw[←hf.out,zf.2 (by omega)];rfl
   have E1:=Zh e1;clear hf e1;go_wp2;go_ret2;exact⟨by rw[E1.out];rfl,Ck⟩
def Hl (n:Nat)(s:List (Int×Int)):Int:=if s.length<n then 7 else if n<s.length then 6 else A4 (fun p=>CK p 0 99) s
theorem afr {S:Nat→Prop}{w:Zb}{v1 v2 v3 v4 v5 v6:Zc}{c:Aw}{s:List (Int×Int)}(h:RC S w v1 v2 v3 v4 v5 c)(hs:SP S w v6 s)(hS:∀b,S b→b<w.heap.size)(s0 s1 s2:Nat):Calls Lp 101 #[.agg #[v1,v2,v3,v4,v5,.int .u8 s0,.int .u8 s1,.int .u8 s2],v6] w fun e w'=>e=.returned (.int .i64 (Hl c.base.length s))∧Zm w.heap.size w w':=by
 obtain⟨a1,c1,rfl,l1,m1⟩:=h.base.val;obtain⟨a2,c2,rfl,l2,m2⟩:=h.Ag.val;obtain⟨a3,c3,rfl,l3,m3⟩:=h.hooks.val;obtain⟨a4,c4,rfl,l4,m4⟩:=h.Aa.val;obtain⟨a5,c5,rfl,l5,m5⟩:=h.now.val;obtain⟨a6,c6,rfl,l6,m6⟩:=hs.val;have I3:=DN;have hB:Zm w.heap.size w (w.alloc (.cells #[.slice a1 c.base.length c1,.slice a2 c.Ag.length c2,.slice a3 c.hooks.length c3,.slice a4 c.Aa.length c4,.slice a5 c.now.length c5,.int .u8 s0,.int .u8 s1,.int .u8 s2] 112)):=(Zi _ _).alloc (Zj _) _;by_cases Wh:s.length<c.base.length
 ·go_enter Lp.func101,yF
  go_wp2;go_ret;exact⟨Bp (by rw[Hl,if_pos Wh]),hB⟩
 by_cases Me:c.base.length<s.length
 ·go_enter Lp.func101,yF
  go_wp2;go_ret;exact⟨Bp (by rw[Hl,if_neg Wh,if_pos Me]),hB⟩
 have HE:=Zh (show Hl c.base.length s=A4 (fun p=>CK p 0 99) s by rw[Hl,if_neg Wh,if_neg Me]);go_enter Lp.func101,yF;go_wp2;go_loopg [24] s.length (fun g i wr=>∃k:Nat,k≤s.length∧g=s.length - k∧i=.int .i64 k∧A4 (fun p=>CK p 0 99) (s.drop k)=A4 (fun p=>CK p 0 99) s∧Zm w.heap.size w wr)
 case atStart=>exact⟨0,Zt _,rfl,rfl,rfl,hB⟩
 case round=>
  obtain⟨k,hk,rfl,rfl,CO,Bh⟩:=hrel;have hf:=Zh CO;clear CO;by_cases Az:k<s.length
  ·obtain⟨b,o,rfl,hb,hca,kp⟩:=hs.at_ Az
   rw[←Bh.cell (p:=⟨b,o+k*2,none⟩) (hS b hb)]at hca;rw[←Bh.cell (p:=⟨b,o+k*2+1,none⟩) (hS b hb)]at kp;have hd:=Zh (EO (f:=fun p=>CK p 0 99) (D5 Az));go_wp2_with (go_at_call 151;refine(yH _ _ _ _ _).mono ?_;rintro e w' ⟨rfl,BA⟩)
   ·have q4:(CK (B1 s k) 0 99 !=0)=true:=by assumption
    go_ret;have e4:A4 (fun p=>CK p 0 99) s=CK (B1 s k) 0 99:=by rw[←hf.out,hd.out,if_neg (Gd q4)]
    exact⟨Bp (by rw[HE.out,e4]),(Bh.alloc Bh.size _).trans (BA.mono (by simp;have:=Bh.size;omega))⟩
   ·have q4:(CK (B1 s k) 0 99 !=0)=false:=by assumption
    have Dz:Zm w.heap.size w w':=(Bh.alloc Bh.size _).trans (BA.mono (by simp;have:=Bh.size;omega));go_roundg (s.length - (k+1))
    case rel=>exact⟨k+1,by omega,rfl,by go_num,by rw[←hf.out,hd.out,if_pos (Fp q4)],Dz⟩
    case measure=>omega
  ·have Q4:=Zh (show Hl c.base.length s=0 by rw[HE.out, ←hf.out];exact FJ (by omega))
   clear hf;go_wp2;go_ret;exact⟨Bp Q4.out.symm,Bh⟩
def JK (hook m b:Int)(p:Int×Int):Bool:=(decide (0<hook)&&Jk (m - hook - b) p)||Jk (m - b) p
def Uo (hook m:Int)(p:Int×Int):Nat→Int→Bool
 |0,_=>true
 |n+1,b=>JK hook m b p&&Uo hook m p n (b+1)
def Ow (hook m:Int)(p r:Int×Int):Bool:=Uo hook m p (r.2+1 - r.1).toNat r.1
def Up (c:Aw)(m:Nat→Int):Nat→List (Int×Int)→Bool
 |_,[]=>true
 |i,r::s=>Ow (nth c.hooks i) (m i) (B1 c.Ag i) r&&Up c m (i+1) s
def DC (c:Aw)(l:List Int)(s:List (Int×Int)):Bool:=Up c (measure c l) 0 s
theorem dB {c:Aw}{m:Nat→Int}{k:Nat}{s:List (Int×Int)}(h:k<s.length):Up c m k (s.drop k)=(Ow (nth c.hooks k) (m k) (B1 c.Ag k) (B1 s k)&&Up c m (k+1) (s.drop (k+1))):=by
 obtain⟨hk,e⟩:=Zo.1 (D5 h);rw[Z4 hk,e]
 rfl
theorem dC {hook m:Int}{p:Int×Int}{b e:Int}(h:b≤e):Uo hook m p (e+1 - b).toNat b=(JK hook m b p&&Uo hook m p (e+1 - (b+1)).toNat (b+1)):=by
 rw[show(e+1 - b).toNat=(e+1 - (b+1)).toNat+1 by omega]
 rfl
theorem jo {hook m:Int}{p:Int×Int}{b e:Int}(h:e<b):Uo hook m p (e+1 - b).toNat b=true:=by
 rw[show(e+1 - b).toNat=0 by omega]
 rfl
theorem Nf {n:Int}(hn: -2≤n∧n≤2):∀(l:List (Int×Int)) (m:Nat→Int) (N:Int),(∀p∈l,-4≤p.2∧p.2≤4)→(∀j,-N≤m j∧m j≤N)→∀j,-(N+8*l.length)≤Bq m n l j∧Bq m n l j≤N+8*l.length
 | [],m,N,_,h=>fun j=>by have:=h j;simpa[Bq,Ew]using this
 |p::r,m,N,hp,h=>fun j=>by
  have h1:=Hk (p:=p) h (hp p (zF ..)) hn;have h2:=Nf hn r (Ht m n p) (N+8) (fun q hq=>hp q (zr _ hq)) h1 j;have e:((p::r).length:Int)=r.length+1:=by simp
  rw[e];show -_≤Bq (Ht m n p) n r j∧Bq (Ht m n p) n r j≤_;omega
theorem PG:∀(l:List (Int×Ax)) (m:Nat→Int) (N:Int),(∀x∈l,(-2≤x.1∧x.1≤2)∧x.2.Ak.length≤2∧∀p∈x.2.Ak,-4≤p.2∧p.2≤4)→(∀j,-N≤m j∧m j≤N)→∀j,-(N+16*l.length)≤Ew m l j∧Ew m l j≤N+16*l.length
 | [],m,N,_,h=>fun j=>by have:=h j;simpa[Bq,Ew]using this
 |x::r,m,N,hx,h=>fun j=>by
  obtain⟨h1,h2,h3⟩:=hx x (zF ..);have h4:=Nf h1 x.2.Ak m N h3 h;have h5:∀j,-(N+16)≤Bq m x.1 x.2.Ak j∧Bq m x.1 x.2.Ak j≤N+16:=fun j=>by have:=h4 j;omega
  have h6:=PG r (Bq m x.1 x.2.Ak) (N+16) (fun q hq=>hx q (zr _ hq)) h5 j;have e:((x::r).length:Int)=r.length+1:=by simp
  rw[e];show -_≤Ew (Bq m x.1 x.2.Ak) r j∧Ew (Bq m x.1 x.2.Ak) r j≤_;omega
theorem nT {l:List (Int×Int)}{p:Int×Int}(h:p∈l):∃k,k<l.length∧B1 l k=p:=by
 obtain⟨k,hk,e⟩:=Zaq h;exact⟨k,hk,by simp[B1,hk,e]⟩
theorem fQ {l:List Int}{p:Int}(h:p∈l):∃k,k<l.length∧nth l k=p:=by
 obtain⟨k,hk,e⟩:=Zaq h;exact⟨k,hk,by simp[nth,hk,e]⟩
theorem aw {l:List Ax}{p:Ax}(h:p∈l):∃k,k<l.length∧Aj l k=p:=by
 obtain⟨k,hk,e⟩:=Zaq h;exact⟨k,hk,by simp[Aj,hk,e]⟩
theorem Te {c:Aw}(hv:E6 c){l:List Int}(hn:l.length≤c.Aa.length)(hb:∀i,i<l.length→-2≤nth l i∧nth l i≤2):∀j,-108≤measure c l j∧measure c l j≤108:=by
 intro j;have h1:=PG (l.zip c.Aa) (fun j=>nth c.base j) 60 (fun x hx=>by
  obtain⟨h2,h3⟩:=List.of_mem_zip (a:=x.1) (b:=x.2) hx;obtain⟨k,hk,e⟩:=fQ h2;obtain⟨i,hi,e2⟩:=aw h3;refine⟨by rw[←e];exact hb k hk,by rw[←e2];exact(hv.Ak i hi).2,fun p hp=>?_⟩;rw[←e2]at hp;obtain⟨q,hq,e3⟩:=nT hp;have:=hv.pull i hi q hq;rw[e3]at this;omega) (Jp hv) j
 have h2:(l.zip c.Aa).length≤3:=by
  have:=hv.few;simp only[List.length_zip];omega
 unfold measure;omega
theorem afs {S:Nat→Prop}{w:Zb}{v1 v2 v3 v4 v5 v6 v7:Zc}{c:Aw}{l:List Int}{s:List (Int×Int)}(h:RC S w v1 v2 v3 v4 v5 c)(hv:E6 c)(hl:SI S w v6 l)(hs:SP S w v7 s)(hn:l.length≤c.Aa.length)(hb:∀i,i<l.length→-2≤nth l i∧nth l i≤2)
  (yP:s.length≤c.base.length) (fR:∀i,i<s.length→0≤(B1 s i).1∧(B1 s i).1≤99∧0≤(B1 s i).2∧(B1 s i).2≤99) (hS:∀b,S b→b<w.heap.size) (s0 s1 s2:Nat):
  Calls Lp 126 #[.agg #[v1,v2,v3,v4,v5,.int .u8 s0,.int .u8 s1,.int .u8 s2],v6,v7] w fun e w'=>e=.returned (.bool (DC c l s))∧Zm w.heap.size w w':=by
 have Gm:∀j,-108≤measure c l j∧measure c l j≤108:=Te hv hn hb;obtain⟨a1,c1,rfl,l1,m1⟩:=h.base.val;obtain⟨a2,c2,rfl,l2,m2⟩:=h.Ag.val;obtain⟨a3,c3,rfl,l3,m3⟩:=h.hooks.val;obtain⟨a4,c4,rfl,l4,m4⟩:=h.Aa.val;obtain⟨a5,c5,rfl,l5,m5⟩:=h.now.val;obtain⟨a6,c6,rfl,l6,m6⟩:=hl.val;obtain⟨a7,c7,rfl,l7,m7⟩:=hs.val;have I3:=DN;have Bw:Zm w.heap.size w (w.alloc (.cells #[.slice a1 c.base.length c1,.slice a2 c.Ag.length c2,.slice a3 c.hooks.length c3,.slice a4 c.Aa.length c4,.slice a5 c.now.length c5,.int .u8 s0,.int .u8 s1,.int .u8 s2] 112)):=(Zi _ _).alloc (Zj _) _;have jq:=Zh (fun W hB=>afl (w:=W) (h.later hB) hv (hl.later hB) hn hb (A8 hS hB) s0 s1 s2);obtain⟨m,hm⟩:∃m,m=measure c l:=⟨_,rfl⟩;have HE:=Zh (show DC c l s=Up c m 0 (s.drop 0) by rw[hm];rfl);rw[←hm]at jq Gm;clear hm;have hg:=hv.E4;have HEL:=Zh hv.Ui;have HHL:=Zh hv.hooks;go_enter Lp.func126,al6;go_wp2_with (go_at_call 113;refine(jq.out _ Bw).mono ?_;rintro e w1 ⟨rfl,Bh⟩;obtain⟨Oh,Lf⟩:=EM Bh);obtain⟨W3,Hd⟩:∃W3,W3=w1.alloc (.cells #[.int .i64 (m 0),.int .i64 (m 1),.int .i64 (m 2)] 150):=⟨_,rfl⟩;have hF0:FW w w1.heap.size #[.slice a1 c.base.length c1,.slice a2 c.Ag.length c2,.slice a3 c.hooks.length c3,.slice a4 c.Aa.length c4,.slice a5 c.now.length c5,.int .u8 s0,.int .u8 s1,.int .u8 s2] m W3:=by
  rw[Hd];refine⟨bA (Bw.trans (Bh.mono Bw.size)),Bm ?_ _,Bv _ _⟩;rw[Bh.block _ (by simp)];exact Bv _ _
 rw[←Hd];clear Hd Oh Lf jq;go_loopg [17] s.length (fun g i wr=>∃k:Nat,k≤s.length∧g=s.length - k∧i=.int .i64 k∧Up c m k (s.drop k)=DC c l s∧FW w w1.heap.size #[.slice a1 c.base.length c1,.slice a2 c.Ag.length c2,.slice a3 c.hooks.length c3,.slice a4 c.Aa.length c4,.slice a5 c.now.length c5,.int .u8 s0,.int .u8 s1,.int .u8 s2] m wr)
 case atStart=>exact⟨0,Zt _,rfl,rfl,HE.out.symm,hF0⟩
 case round=>
  obtain⟨k,hk,rfl,rfl,CO,hF⟩:=hrel;have hf:=Zh CO;clear CO;by_cases Az:k<s.length
  ·have hd:=Zh (dB (c:=c) (m:=m) Az)
   have hkb:k<c.base.length:=by omega
   have Wk:k<c.Ag.length:=by rw[HEL.out];exact hkb
   have hkh:k<c.hooks.length:=by rw[HHL.out];exact hkb
   have M_:k<3:=by omega
   have Tb:(k:Int)<3:=by omega
   obtain⟨b7,o7,rfl,Wi,p1,p2⟩:=hs.at_ Az;rw[←hF.below.cell (p:=⟨b7,o7+k*2,none⟩) (hS b7 Wi)]at p1;rw[←hF.below.cell (p:=⟨b7,o7+k*2+1,none⟩) (hS b7 Wi)]at p2;have hE:=hv.Ag k Wk;have hH:=hv.hook k hkh;obtain⟨Wc,PV,hr3,hr4⟩:=fR k Az;obtain⟨b2,o2,rfl,ET,d1,d2⟩:=h.Ag.at_ Wk;obtain⟨b3,o3,rfl,Vj,d3⟩:=h.hooks.at_ hkh;obtain⟨r,hrr⟩:∃r,r=B1 s k:=⟨_,rfl⟩;obtain⟨ep,hep⟩:∃r,r=B1 c.Ag k:=⟨_,rfl⟩;obtain⟨hook,ax⟩:∃r,r=nth c.hooks k:=⟨_,rfl⟩;rw[←hrr]at p1 p2 Wc PV hr3 hr4 hd;rw[←hep]at d1 d2 hE hd;rw[←ax]at d3 hH hd;clear hrr hep ax;obtain⟨lo,hi⟩:=r;obtain⟨e1,e2⟩:=ep;dsimp only at p1 p2 Wc PV hr3 hr4 d1 d2 hE;have hwl:=hF.below.size;have Wl:=hF.later ((Zi wr.heap.size wr).alloc (Zj _) (.cells #[.int .i64 lo,.int .i64 hi] 80));obtain⟨W5,I6⟩:∃W5,W5=wr.alloc (.cells #[.int .i64 lo,.int .i64 hi] 80):=⟨_,rfl⟩;have hQ0:W5.heap[wr.heap.size]?=some (.cells #[.int .i64 lo,.int .i64 hi] 80 (0,0)):=by rw[I6];exact Bv _ _
   rw[←I6]at Wl;have e0:W5.cell? ⟨wr.heap.size,0,none⟩=some (.int .i64 lo):=ch hQ0 rfl;have HW:=Zh I6;clear I6;go_wp2;rw[←HW.out];go_loopg [10] ((hi+1 - lo).toNat) (fun g i wx=>∃x:Int,0≤x∧x≤100∧g=(hi+1 - x).toNat∧i=.int .i64 x∧Uo hook (m k) (e1,e2) (hi+1 - x).toNat x=Ow hook (m k) (e1,e2) (lo,hi)∧FW w w1.heap.size #[.slice a1 c.base.length c1,.slice (some ⟨b2,o2,none⟩) c.Ag.length c2,.slice (some ⟨b3,o3,none⟩) c.hooks.length c3,.slice a4 c.Aa.length c4,.slice a5 c.now.length c5,.int .u8 s0,.int .u8 s1,.int .u8 s2] m wx∧wx.heap[wr.heap.size]?=some (.cells #[.int .i64 lo,.int .i64 hi] 80 (0,0)))
   case atStart=>exact⟨lo,Wc,by omega,rfl,rfl,rfl,Wl,hQ0⟩
   case round=>
    obtain⟨x,Og,T5,rfl,rfl,vl,VD,hQ⟩:=hrel;have bt:=Zh vl;clear vl;have q1c:=ch (i:=1) hQ (v:=.int .i64 hi) rfl;by_cases hle:x≤hi
    ·have yQ:=Zh (dC (hook:=hook) (m:=m k) (p:=(e1,e2)) hle)
     have hmk:=Gm k;have z1:=fun p=>Aq p (ch (i:=2) VD.box (v:=.slice (some ⟨b3,o3,none⟩) c.hooks.length c3) rfl);have z2:=fun p=>Aq p (ch (i:=1) VD.box (v:=.slice (some ⟨b2,o2,none⟩) c.Ag.length c2) rfl);have z3:=fun p=>Aq p (ch (i:=k) VD.row (Gf M_));have z4:=fun p=>Aq p ((VD.below.cell (p:=⟨b2,o2+k*2,none⟩) (hS b2 ET)).trans d1);have z5:=fun p=>Aq p ((VD.below.cell (p:=⟨b2,o2+k*2+1,none⟩) (hS b2 ET)).trans d2);have z6:=fun p=>Aq p ((VD.below.cell (p:=⟨b3,o3+k,none⟩) (hS b3 Vj)).trans d3);have iw1:IntKind.i64.wrap (m k - hook)=m k - hook:=IntWalk.i64_in _ (by omega);have iw2:IntKind.i64.wrap (m k - hook - x)=m k - hook - x:=IntWalk.i64_in _ (by omega);have iw3:IntKind.i64.wrap (m k - x)=m k - x:=IntWalk.i64_in _ (by omega);have Q2:=Zh (fun W=>afc (m k - x) e1 e2 W);have Q1:=Zh (fun W=>afc (m k - hook - x) e1 e2 W);cases jr:decide (0<hook) with
     |true=>
      cases VE:Jk (m k - hook - x) (e1,e2) with
      |true=>
       rw[VE]at Q1;have sh:=Zh (show JK hook (m k) x (e1,e2)=true by rw[JK,jr,VE];rfl);have hh:0<hook:=of_decide_eq_true jr;clear jr VE;go_wp2;refine AU (by kernel_rfl) (by kernel_rfl) ?_
       repeat (first|go_big_quiet_step ((go_at_call 161;exact BD (Q1.out _)))|quiet_step ((go_at_call 161;exact BD (Q1.out _))))
       refine Ye ?_;rintro _ ⟨p,rfl⟩;have IX:=BS wr p;obtain⟨wy,fS⟩:∃wy,wy=calm wr p:=⟨_,rfl⟩;rw[←fS]at IX⊢;clear fS z1 z2 z3 z4 z5 z6;have Io:=VD.later IX;have fT:=(IX.block _ (Za.1 hQ).1).trans hQ;have y1:=fun p=>Aq p (ch (i:=1) Io.box (v:=.slice (some ⟨b2,o2,none⟩) c.Ag.length c2) rfl);have y3:=fun p=>Aq p (ch (i:=k) Io.row (Gf M_));have y4:=fun p=>Aq p ((Io.below.cell (p:=⟨b2,o2+k*2,none⟩) (hS b2 ET)).trans d1);have y5:=fun p=>Aq p ((Io.below.cell (p:=⟨b2,o2+k*2+1,none⟩) (hS b2 ET)).trans d2);go_wp2;refine AU (by kernel_rfl) (by kernel_rfl) ?_
       repeat (first|go_big_quiet_step (fail)|quiet_step (fail))
       refine Ye ?_;rintro _ ⟨p2,rfl⟩;have I5:=BS wy p2;obtain⟨wz,ay⟩:∃wz,wz=calm wy p2:=⟨_,rfl⟩;rw[←ay]at I5⊢;clear ay y1 y3 y4 y5;have Tf:=Io.later I5;have yR:=(I5.block _ (Za.1 fT).1).trans fT;go_wp2;go_roundg ((hi+1 - (x+1)).toNat)
       case rel=>exact⟨x+1,by omega,by omega,rfl,rfl,by rw[←bt.out,yQ.out,sh.out];rfl,Tf,yR⟩
       case measure=>omega
      |false=>
       cases Ng:Jk (m k - x) (e1,e2) with
       |true=>
        rw[VE]at Q1;rw[Ng]at Q2;have sh:=Zh (show JK hook (m k) x (e1,e2)=true by rw[JK,jr,VE,Ng];rfl);have hh:0<hook:=of_decide_eq_true jr;clear jr VE;clear Ng;go_wp2;refine AU (by kernel_rfl) (by kernel_rfl) ?_
        repeat (first|go_big_quiet_step ((go_at_call 161;exact BD (Q1.out _)))|quiet_step ((go_at_call 161;exact BD (Q1.out _))))
        refine Ye ?_;rintro _ ⟨p,rfl⟩;have IX:=BS wr p;obtain⟨wy,fS⟩:∃wy,wy=calm wr p:=⟨_,rfl⟩;rw[←fS]at IX⊢;clear fS z1 z2 z3 z4 z5 z6;have Io:=VD.later IX;have fT:=(IX.block _ (Za.1 hQ).1).trans hQ;have y1:=fun p=>Aq p (ch (i:=1) Io.box (v:=.slice (some ⟨b2,o2,none⟩) c.Ag.length c2) rfl);have y3:=fun p=>Aq p (ch (i:=k) Io.row (Gf M_));have y4:=fun p=>Aq p ((Io.below.cell (p:=⟨b2,o2+k*2,none⟩) (hS b2 ET)).trans d1);have y5:=fun p=>Aq p ((Io.below.cell (p:=⟨b2,o2+k*2+1,none⟩) (hS b2 ET)).trans d2);go_wp2;refine AU (by kernel_rfl) (by kernel_rfl) ?_
        repeat (first|go_big_quiet_step ((go_at_call 161;exact BD (Q2.out _)))|quiet_step ((go_at_call 161;exact BD (Q2.out _))))
        refine Ye ?_;rintro _ ⟨p2,rfl⟩;have I5:=BS wy p2;obtain⟨wz,ay⟩:∃wz,wz=calm wy p2:=⟨_,rfl⟩;rw[←ay]at I5⊢;clear ay y1 y3 y4 y5;have Tf:=Io.later I5;have yR:=(I5.block _ (Za.1 fT).1).trans fT;go_wp2;go_roundg ((hi+1 - (x+1)).toNat)
        case rel=>exact⟨x+1,by omega,by omega,rfl,rfl,by rw[←bt.out,yQ.out,sh.out];rfl,Tf,yR⟩
        case measure=>omega
       |false=>
        rw[VE]at Q1;rw[Ng]at Q2;have sh:=Zh (show JK hook (m k) x (e1,e2)=false by rw[JK,jr,VE,Ng];rfl);have hh:0<hook:=of_decide_eq_true jr;clear jr VE;clear Ng;go_wp2;refine AU (by kernel_rfl) (by kernel_rfl) ?_
        repeat (first|go_big_quiet_step ((go_at_call 161;exact BD (Q1.out _)))|quiet_step ((go_at_call 161;exact BD (Q1.out _))))
        refine Ye ?_;rintro _ ⟨p,rfl⟩;have IX:=BS wr p;obtain⟨wy,fS⟩:∃wy,wy=calm wr p:=⟨_,rfl⟩;rw[←fS]at IX⊢;clear fS z1 z2 z3 z4 z5 z6;have Io:=VD.later IX;have fT:=(IX.block _ (Za.1 hQ).1).trans hQ;have y1:=fun p=>Aq p (ch (i:=1) Io.box (v:=.slice (some ⟨b2,o2,none⟩) c.Ag.length c2) rfl);have y3:=fun p=>Aq p (ch (i:=k) Io.row (Gf M_));have y4:=fun p=>Aq p ((Io.below.cell (p:=⟨b2,o2+k*2,none⟩) (hS b2 ET)).trans d1);have y5:=fun p=>Aq p ((Io.below.cell (p:=⟨b2,o2+k*2+1,none⟩) (hS b2 ET)).trans d2);go_wp2;refine AU (by kernel_rfl) (by kernel_rfl) ?_
        repeat (first|go_big_quiet_step ((go_at_call 161;exact BD (Q2.out _)))|quiet_step ((go_at_call 161;exact BD (Q2.out _))))
        refine Ye ?_;rintro _ ⟨p2,rfl⟩;have I5:=BS wy p2;obtain⟨wz,ay⟩:∃wz,wz=calm wy p2:=⟨_,rfl⟩;rw[←ay]at I5⊢;clear ay y1 y3 y4 y5;have Tf:=Io.later I5;have yR:=(I5.block _ (Za.1 fT).1).trans fT;go_wp2;have e5:Ow hook (m k) (e1,e2) (lo,hi)=false:=by rw[←bt.out,yQ.out,sh.out];rfl
        have e6:DC c l s=false:=by rw[←hf.out,hd.out,e5];rfl
        go_ret;exact⟨by rw[e6];rfl,Tf.below⟩
     |false=>
      cases Ng:Jk (m k - x) (e1,e2) with
      |true=>
       rw[Ng]at Q2;have sh:=Zh (show JK hook (m k) x (e1,e2)=true by rw[JK,jr,Ng];rfl);clear Ng;go_wp2;refine AU (by kernel_rfl) (by kernel_rfl) ?_
       repeat (first|go_big_quiet_step (fail)|quiet_step (fail))
       refine Ye ?_;rintro _ ⟨p,rfl⟩;have IX:=BS wr p;obtain⟨wy,fS⟩:∃wy,wy=calm wr p:=⟨_,rfl⟩;rw[←fS]at IX⊢;clear fS z1 z2 z3 z4 z5 z6;have Io:=VD.later IX;have fT:=(IX.block _ (Za.1 hQ).1).trans hQ;have y1:=fun p=>Aq p (ch (i:=1) Io.box (v:=.slice (some ⟨b2,o2,none⟩) c.Ag.length c2) rfl);have y3:=fun p=>Aq p (ch (i:=k) Io.row (Gf M_));have y4:=fun p=>Aq p ((Io.below.cell (p:=⟨b2,o2+k*2,none⟩) (hS b2 ET)).trans d1);have y5:=fun p=>Aq p ((Io.below.cell (p:=⟨b2,o2+k*2+1,none⟩) (hS b2 ET)).trans d2);go_wp2;refine AU (by kernel_rfl) (by kernel_rfl) ?_
       repeat (first|go_big_quiet_step ((go_at_call 161;exact BD (Q2.out _)))|quiet_step ((go_at_call 161;exact BD (Q2.out _))))
       refine Ye ?_;rintro _ ⟨p2,rfl⟩;have I5:=BS wy p2;obtain⟨wz,ay⟩:∃wz,wz=calm wy p2:=⟨_,rfl⟩;rw[←ay]at I5⊢;clear ay y1 y3 y4 y5;have Tf:=Io.later I5;have yR:=(I5.block _ (Za.1 fT).1).trans fT;go_wp2;go_roundg ((hi+1 - (x+1)).toNat)
       case rel=>exact⟨x+1,by omega,by omega,rfl,rfl,by rw[←bt.out,yQ.out,sh.out];rfl,Tf,yR⟩
       case measure=>omega
      |false=>
       rw[Ng]at Q2;have sh:=Zh (show JK hook (m k) x (e1,e2)=false by rw[JK,jr,Ng];rfl);clear Ng;go_wp2;refine AU (by kernel_rfl) (by kernel_rfl) ?_
       repeat (first|go_big_quiet_step (fail)|quiet_step (fail))
       refine Ye ?_;rintro _ ⟨p,rfl⟩;have IX:=BS wr p;obtain⟨wy,fS⟩:∃wy,wy=calm wr p:=⟨_,rfl⟩;rw[←fS]at IX⊢;clear fS z1 z2 z3 z4 z5 z6;have Io:=VD.later IX;have fT:=(IX.block _ (Za.1 hQ).1).trans hQ;have y1:=fun p=>Aq p (ch (i:=1) Io.box (v:=.slice (some ⟨b2,o2,none⟩) c.Ag.length c2) rfl);have y3:=fun p=>Aq p (ch (i:=k) Io.row (Gf M_));have y4:=fun p=>Aq p ((Io.below.cell (p:=⟨b2,o2+k*2,none⟩) (hS b2 ET)).trans d1);have y5:=fun p=>Aq p ((Io.below.cell (p:=⟨b2,o2+k*2+1,none⟩) (hS b2 ET)).trans d2);go_wp2;refine AU (by kernel_rfl) (by kernel_rfl) ?_
       repeat (first|go_big_quiet_step ((go_at_call 161;exact BD (Q2.out _)))|quiet_step ((go_at_call 161;exact BD (Q2.out _))))
       refine Ye ?_;rintro _ ⟨p2,rfl⟩;have I5:=BS wy p2;obtain⟨wz,ay⟩:∃wz,wz=calm wy p2:=⟨_,rfl⟩;rw[←ay]at I5⊢;clear ay y1 y3 y4 y5;have Tf:=Io.later I5;have yR:=(I5.block _ (Za.1 fT).1).trans fT;go_wp2;have e5:Ow hook (m k) (e1,e2) (lo,hi)=false:=by rw[←bt.out,yQ.out,sh.out];rfl
       have e6:DC c l s=false:=by rw[←hf.out,hd.out,e5];rfl
       go_ret;exact⟨by rw[e6];rfl,Tf.below⟩
    ·have e5:Ow hook (m k) (e1,e2) (lo,hi)=true:=by rw[←bt.out];exact jo (by omega)
     have E5:=Zh e5;clear e5 bt;go_wp2;go_roundg (s.length - (k+1))
     case rel=>exact⟨k+1,by omega,rfl,by go_num,by rw[←hf.out,hd.out,E5.out];rfl,VD⟩
     case measure=>omega
  ·have e1:DC c l s=true:=by rw[←hf.out,zf.2 (by omega)];rfl
   have E1:=Zh e1;clear e1 hf;go_wp2;go_ret;exact⟨by rw[E1.out];rfl,hF.below⟩
section
variable {P:Zp}{ops:Array Oper}{Q:Exit→Act→Zb→Prop}{md:YD}{S:Zb→Prop}{T:Nat→Zb→Prop}
theorem GU {id:Nat}{a:Act}{w:Zb}{l:List Oper}(ls:List Nat)(g:Nat)(Qy:Array Bool)(hm:P.follows .mixedOrders=true)(hQ:∀c a d v w,Q (.panic c) (Act.put a d v) w→Q (.panic c) a w)
  (hB:(Yv l.toArray&&decide (g+ls.length=l.toArray.size)&&ltB .any l.toArray [] (fun L=>L==Qy) ls (Yd l.toArray.size false))=true) (hS:S w.drew)
  (h:Mg P l.toArray S (fun a'=>Co P .any l.toArray Q (fun _=>S) g Qy a' w.drew) ls a):(zH id l.toArray true).wp P Q a w:=by
 simp only[ZD,decide_eq_true_eq]at hB;have hT:(Fq [] S:Nat→Zb→Prop)=fun _=>S:=by
  funext i w
  simp[Fq]
 refine wp_region_any hm (Jq (T:=Fq [] S) _ _ _ _ ?_);have:=K1 (P:=P) (lates:=[]) (K:=fun a'=>Co P .any l.toArray Q (fun _=>S) g Qy a' w.drew) hB.1.1 hQ hS (fun listed a h1 h2=>by
  have e:listed=Qy:=eq_of_beq h1;rw[e,hT];exact h2) ls _ a hB.2 h
 rw[hB.1.2]at this;exact this
theorem Kz {K:Act→Prop}:∀(l r:List Nat) (a:Act),Mg P ops S (Mg P ops S K r) l a→Mg P ops S K (l++r) a
 | [],_,_,h=>h
 |_::l,r,_,⟨o,v,h1,h2,h3⟩=>⟨o,v,h1,h2,Kz l r _ h3⟩
theorem Cr {K:Act→Prop}{i:Nat}{r:List Nat}{o:Oper}{v:Zc}{a:Act}(ho:ops[i]?=some o)(hg:o.guard=none)(hr:∀w,S w→(execOp a.eval o).run P w=.ok (.value v) w)(h:Mg P ops S K r (a.put o.dst v)):Mg P ops S K (i::r) a:=
 ⟨o,v,ho,.inl ⟨by simp[zU,hg],hr⟩,h⟩
theorem AJ {f:Nat}{listed:Array Bool}{a:Act}{w:Zb}(rs:List Nat)(hr:zh md ops listed=rs)(BI:rs≠ [])(h:∀i∈rs,wpOp P ops Q i (fun a' w'=>T i w'∧Co P md ops Q T f (listed.setIfInBounds i true) a' w') a w):Co P md ops Q T (f+1) listed a w:=
 ⟨fun h0=>absurd (hr.symm.trans h0) BI,by rw[hr];exact h⟩
theorem Dw {i:Nat}{K:Act→Zb→Prop}{o:Oper}{f:YT}{args:Array Zc}{a:Act}{w:Zb}(ho:ops[i]?=some o)(hg:o.guard=none)(hr:(execOp a.eval o).run P w=.ok (.enter f args) w)
  (hc:Calls P f args w fun e w'=>(∃v,e=.returned v∧K (a.put o.dst v) w')∨∃x,e=.panicked x∧Q (.panic x) a w'):wpOp P ops Q i K a w:=by
 unfold wpOp;simp only[ho];rw[if_pos (by simp[zU,hg])];refine .inl ?_;unfold Oper.wp;rw[hr,Oper.upon_enter];refine hc.mono fun e w' h=>?_;rcases h with⟨v,rfl,h⟩|⟨x,rfl,h⟩
 ·exact h
 ·exact h
theorem EI {i:Nat}{K:Act→Zb→Prop}{o:Oper}{v:Zc}{a:Act}{w w':Zb}(ho:ops[i]?=some o)(hg:o.guard=none)(hr:(execOp a.eval o).run P w=.ok (.value v) w')(h:K (a.put o.dst v) w'):wpOp P ops Q i K a w:=by
 unfold wpOp;simp only[ho];rw[if_pos (by simp[zU,hg])];refine .inl ?_;unfold Oper.wp;rw[hr,Oper.upon_value];exact h
theorem Qz {i:Nat}{K:Act→Zb→Prop}{o:Oper}{a:Act}{w w':Zb}(ho:ops[i]?=some o)(hg:o.guard=none)(hr:(execOp a.eval o).run P w=.ok .skip w')(h:K (a.put o.dst Ze) w'):wpOp P ops Q i K a w:=by
 unfold wpOp;simp only[ho];rw[if_pos (by simp[zU,hg])];refine .inl ?_;unfold Oper.wp;rw[hr,Oper.upon_skip];exact h
theorem BB {p:Nat→Prop}{i:Nat}(h:p i):∀j∈ [i],p j:=fun j hj=>by
 rw[YJ.1 hj];exact h
theorem HN {p:Nat→Prop}{i k:Nat}(h:p i)(h2:p k):∀j∈ [i,k],p j:=fun j hj=>by
 rcases List.mem_cons.1 hj with rfl|hj
 ·exact h
 ·exact BB h2 j hj
end
section
variable {P:Zp}{ops:Array Oper}{Q:Exit→Act→Zb→Prop}{md:YD}{S:Zb→Prop}{T:Nat→Zb→Prop}
def Mh (md:YD)(ops:Array Oper):Nat→Nat→Nat→Bool
 |0,_,_=>false
 |f+1,j,i=>match ops[j]? with|some o=>o.after.any fun e=>zZ md e&&(e.on==i||Mh md ops f e.on i)|none=>false
def Dn (md:YD)(ops:Array Oper)(listed:Array Bool):Prop:=∀k ok,ops[k]?=some ok→listed.getD k false=true→∀e∈ok.after,zZ md e=true→listed.getD e.on false=true
theorem Uq {listed:Array Bool}{i:Nat}(h:listed.getD i true=false):listed.getD i false=false:=by
 by_cases hi:i<listed.size
 ·simp[hi]at h⊢;exact h
 ·simp[YG (Nat.le_of_not_lt hi)]at h
theorem Dn.step {listed:Array Bool}{j:Nat}(h:Dn md ops listed)(hj:j∈zh md ops listed):Dn md ops (listed.setIfInBounds j true):=by
 intro k ok hk hl e he hb;obtain⟨_,oj,kE,Fv⟩:=mem_ready.1 hj;have vr:∀x,listed.getD x false=true→(listed.setIfInBounds j true).getD x false=true:=fun x hx=>by
  by_cases hjx:j=x
  ·subst hjx
   by_cases hs:j<listed.size
   ·simp[hs]
   ·simp[YG (Nat.le_of_not_lt hs)]at hx
  ·rw[getD_set_ne false hjx];exact hx
 by_cases dt:j=k
 ·subst dt
  rw[hk]at kE;cases kE;exact vr _ (Fv e he hb)
 ·rw[getD_set_ne false dt]at hl
  exact vr _ (h k ok hk hl e he hb)
theorem Dn.closed {listed:Array Bool}(h:Dn md ops listed){i:Nat}(hi:listed.getD i true=false):∀(f j:Nat),(∀o,ops[j]?=some o→∀e∈o.after,zZ md e=true→listed.getD e.on false=true)→Mh md ops f j i=false
 |0,_,_=>rfl
 |f+1,j,hj=>by
  unfold Mh;cases ho:ops[j]? with
  |none=>rfl
  |some o=>
   simp only;cases hb:o.after.any fun e=>zZ md e&&(e.on==i||Mh md ops f e.on i) with
   |false=>rfl
   |true=>
    obtain⟨e,he,hx⟩:=Array.any_eq_true'.1 hb;simp only[ZD,ZaA,beq_iff_eq]at hx;have hl:=hj o ho e he hx.1;rcases hx.2 with h2|h2
    ·rw[h2,Uq hi]at hl;cases hl
    ·rw[Dn.closed h hi f e.on fun o' py=>h e.on o' py hl]at h2
     cases h2
theorem LA {i n:Nat}{oi:Oper}{v:Zc}(hi:ops[i]?=some oi)(hs:Yv ops=true)(hQ:∀c a w,Q (.panic c) (a.put oi.dst v) w→Q (.panic c) a w)
  (hT:∀w,S w→T i w) (nN:∀j,Mh md ops n j i=true∨∀w,T j w→S w):
  ∀(f:Nat) (listed:Array Bool) (a:Act) (w:Zb),Dn md ops listed→ZaS md ops listed i=true→i∈zh md ops listed→YieldsIf P ops S oi v a→S w→
   Co P md ops Q T f (listed.setIfInBounds i true) (a.put oi.dst v) w→Co P md ops Q T (f+1) listed a w:=by
 have Ig:=Region.noSelect_spec hs;have key:∀(f:Nat) (listed:Array Bool) (a:Act) (w:Zb),Dn md ops listed→(∀j oj,ops[j]?=some oj→j≠i→listed.getD j true=false→(∀e∈oj.after,zZ md e=true→e.on≠i)→oi.apart ops oj=true)→
   i∈zh md ops listed→YieldsIf P ops S oi v a→S w→Co P md ops Q T f (listed.setIfInBounds i true) (a.put oi.dst v) w→Co P md ops Q T (f+1) listed a w:=by
  intro f
  induction f with
  |zero=>
   intro listed a w _ _ hr hy hS H;refine⟨fun h=>(by rw[h]at hr;cases hr),fun j hj=>?_⟩;by_cases Lc:j=i
   ·subst Lc;exact hy.wpOp hi hS ⟨hT _ hS,H⟩
   ·have:=ready_mono hj Lc
    rw[H.1]at this;cases this
  |succ f ih=>
   intro listed a w hD OT hr hy hS H;refine⟨fun h=>(by rw[h]at hr;cases hr),fun j hj=>?_⟩;by_cases Lc:j=i
   ·subst Lc;exact hy.wpOp hi hS ⟨hT _ hS,H⟩
   ·have h1:=H.2 j (ready_mono hj Lc)
    obtain⟨nO,oj,kE,Fv⟩:=mem_ready.1 hj;have aft:listed.getD i true=false:=(mem_ready.1 hr).1;have hun:listed.getD i false=false:=Uq aft;have sg:∀e∈oj.after,zZ md e=true→e.on≠i:=fun e he hb heq=>by
     have:=Fv e he hb;rw[heq,hun]at this;cases this
    have kF:∀w,T j w→S w:=(nN j).resolve_left (by
     rw[hD.closed aft n j fun o ho=>by rw[kE]at ho;cases ho;exact Fv]
     decide)
    have h2:=wpOp_putIf kE (OT j oj kE Lc nO sg) (fun cs b=>Ig i oi cs b hi) (fun cs b=>Ig j oj cs b kE) hQ hy h1;have dp:∀k ok,ops[k]?=some ok→k≠i→(listed.setIfInBounds j true).getD k true=false→
      (∀e∈ok.after,zZ md e=true→e.on≠i)→oi.apart ops ok=true:=fun k ok hk Tb nP Kh=>by
     refine OT k ok hk Tb ?_ Kh;by_cases dt:j=k
     ·subst dt;exact nO
     ·rw[getD_set_ne true dt]at nP;exact nP
    refine wpOp_mono (fun a' w' h3=>⟨h3.2.1,ih (listed.setIfInBounds j true) a' w' (hD.step hj) dp (ready_mono hr (Ne.symm Lc)) h3.1 (kF _ h3.2.1) ?_⟩) h2;rw[Array.setIfInBounds_comm _ _ Lc];exact h3.2.2
 intro f listed a w hD hf;exact key f listed a w hD (Region.free_spec hi hf)
def Jt (P:Zp)(ops:Array Oper)(Q:Exit→Act→Zb→Prop)(S:Zb→Prop)(T:Nat→Zb→Prop):List (Bool×Nat)→Act→Zb→Prop
 | [],a,w=>Q .normal a w
 |(false,i)::r,a,w=>wpOp P ops Q i (fun a' w'=>T i w'∧Jt P ops Q S T r a' w') a w
 |(true,i)::r,a,w=>S w∧∃o v,ops[i]?=some o∧YieldsIf P ops S o v a∧Jt P ops Q S T r (a.put o.dst v) w
def nU (md:YD)(ops:Array Oper)(n:Nat)(lates:List Nat)(i:Nat):Bool:=lates.all fun j=>Mh md ops n j i
def yS (md:YD)(ops:Array Oper)(n:Nat)(lates:List Nat):List (Bool×Nat)→Array Bool→Bool
 | [],listed=>(zh md ops listed).isEmpty
 |(false,i)::r,listed=>decide (zh md ops listed=[i])&&yS md ops n lates r (listed.setIfInBounds i true)
 |(true,i)::r,listed=>(zh md ops listed).contains i&&ZaS md ops listed i&&nU md ops n lates i&&yS md ops n lates r (listed.setIfInBounds i true)
theorem fU {n i:Nat}{lates:List Nat}(h:nU md ops n lates i=true)(j:Nat):Mh md ops n j i=true∨∀w,Fq lates S j w→S w:=by
 by_cases hj:lates.contains j=true
 ·exact .inl (List.all_eq_true.1 h j (by simpa using hj))
 ·exact .inr fun w x=>x.resolve_left hj
theorem Ox {n:Nat}{lates:List Nat}(Ig:Yv ops=true)(hQ:∀c a d v w,Q (.panic c) (Act.put a d v) w→Q (.panic c) a w):
  ∀(hs:List (Bool×Nat)) (listed:Array Bool) (a:Act) (w:Zb),Dn md ops listed→yS md ops n lates hs listed=true→Jt P ops Q S (Fq lates S) hs a w→Co P md ops Q (Fq lates S) hs.length listed a w
 | [],_,_,_,_,hB,h=>⟨by simpa[yS]using hB,h⟩
 |(false,i)::r,listed,a,w,hD,hB,h=>by
  simp only[yS,ZD,decide_eq_true_eq]at hB;refine⟨fun h0=>(by rw[hB.1]at h0;cases h0),fun j hj=>?_⟩;have hj':=hj;rw[hB.1]at hj;have:j=i:=by simpa using hj
  subst this;exact wpOp_mono (fun a' w' x=>⟨x.1,Ox Ig hQ r _ a' w' (hD.step hj') hB.2 x.2⟩) h
 |(true,i)::r,listed,a,w,hD,hB,h=>by
  simp only[yS,ZD]at hB;obtain⟨hS,o,v,ho,hy,h⟩:=h;have hr:i∈zh md ops listed:=by simpa using hB.1.1.1
  exact LA (S:=S) (n:=n) (f:=r.length) ho Ig (fun c a w x=>hQ c a o.dst v w x) (fun w x=>.inr x) (fU hB.1.2) listed a w hD hB.1.1.2 hr hy hS (Ox Ig hQ r _ _ w (hD.step hr) hB.2 h)
def lsB (md:YD)(ops:Array Oper)(n:Nat)(lates:List Nat)(next:Array Bool→Bool):List Nat→Array Bool→Bool
 | [],listed=>next listed
 |i::r,listed=>(zh md ops listed).contains i&&ZaS md ops listed i&&nU md ops n lates i&&lsB md ops n lates next r (listed.setIfInBounds i true)
theorem Ur {n:Nat}{lates:List Nat}{w:Zb}{next:Array Bool→Bool}{K:Act→Prop}{g:Nat}(Ig:Yv ops=true)(hQ:∀c a d v w,Q (.panic c) (Act.put a d v) w→Q (.panic c) a w)(hS:S w)
  (hK:∀listed a,Dn md ops listed→next listed=true→K a→Co P md ops Q (Fq lates S) g listed a w):
  ∀(ls:List Nat) (listed:Array Bool) (a:Act),Dn md ops listed→lsB md ops n lates next ls listed=true→Mg P ops S K ls a→Co P md ops Q (Fq lates S) (g+ls.length) listed a w
 | [],listed,a,hD,hB,h=>hK listed a hD hB h
 |i::r,listed,a,hD,hB,h=>by
  simp only[lsB,ZD]at hB;obtain⟨o,v,ho,hy,h⟩:=h;have hr:i∈zh md ops listed:=by simpa using hB.1.1.1
  exact LA (S:=S) (n:=n) (f:=g+r.length) ho Ig (fun c a w x=>hQ c a o.dst v w x) (fun w x=>.inr x) (fU hB.1.2) listed a w hD hB.1.1.2 hr hy hS (Ur Ig hQ hS hK r _ _ (hD.step hr) hB.2 h)
theorem Nh {id:Nat}{a:Act}{w:Zb}{l:List Oper}(n:Nat)(lates:List Nat)(hs:List (Bool×Nat))(ls:List Nat)(hm:P.follows .mixedOrders=true)(hQ:∀c a d v w,Q (.panic c) (Act.put a d v) w→Q (.panic c) a w)
  (hB:(Yv l.toArray&&decide (hs.length+ls.length=l.toArray.size)&&lsB .any l.toArray n lates (yS .any l.toArray n lates hs) ls (Yd l.toArray.size false))=true) (hS:S w.drew)
  (h:Mg P l.toArray S (fun a'=>Jt P l.toArray Q S (Fq lates S) hs a' w.drew) ls a):(zH id l.toArray true).wp P Q a w:=by
 simp only[ZD,decide_eq_true_eq]at hB;refine wp_region_any hm (Jq (T:=Fq lates S) _ _ _ _ ?_);have hD0:Dn .any l.toArray (Yd l.toArray.size false):=fun k ok _ hl=>by
  rw[show(Yd l.toArray.size false).getD k false=false by unfold Array.getD;split<;>simp]at hl;cases hl
 have:=Ur hB.1.1 hQ hS (fun listed a hD h1 h2=>Ox hB.1.1 hQ hs listed a w.drew hD h1 h2) ls _ a hD0 hB.2 h;rw[hB.1.2]at this;exact this
theorem R8 {i:Nat}{r:List (Bool×Nat)}{o:Oper}{a:Act}{w:Zb}(ho:ops[i]?=some o)(hg:o.guard=none)(h:o.wp P a w (fun a' w'=>T i w'∧Jt P ops Q S T r a' w') Q):Jt P ops Q S T ((false,i)::r) a w:=by
 unfold Jt wpOp;simp only[ho];rw[if_pos (by simp[zU,hg])];exact .inl h
theorem Ii {i:Nat}{r:List (Bool×Nat)}{o:Oper}{v:Zc}{a:Act}{w w':Zb}(ho:ops[i]?=some o)(hg:o.guard=none)(hr:(execOp a.eval o).run P w=.ok (.value v) w')(hT:T i w')
  (h:Jt P ops Q S T r (a.put o.dst v) w'):Jt P ops Q S T ((false,i)::r) a w:=by
 refine R8 ho hg ?_;unfold Oper.wp;rw[hr,Oper.upon_value];exact⟨hT,h⟩
theorem Ni {i:Nat}{r:List (Bool×Nat)}{o:Oper}{f:YT}{args:Array Zc}{a:Act}{w:Zb}(ho:ops[i]?=some o)(hg:o.guard=none)(hr:(execOp a.eval o).run P w=.ok (.enter f args) w)
  (hc:Calls P f args w fun e w'=>∃v,e=.returned v∧T i w'∧Jt P ops Q S T r (a.put o.dst v) w'):Jt P ops Q S T ((false,i)::r) a w:=by
 refine R8 ho hg ?_;unfold Oper.wp;rw[hr,Oper.upon_enter];refine hc.mono fun e w' ⟨v,he,h1,h2⟩=>?_;subst he;exact⟨h1,h2⟩
theorem Nj {i:Nat}{r:List (Bool×Nat)}{o:Oper}{a:Act}{w w':Zb}(ho:ops[i]?=some o)(hg:o.guard=none)(hr:(execOp a.eval o).run P w=.ok .skip w')(hT:T i w')
  (h:Jt P ops Q S T r (a.put o.dst Ze) w'):Jt P ops Q S T ((false,i)::r) a w:=by
 refine R8 ho hg ?_;unfold Oper.wp;rw[hr,Oper.upon_skip];exact⟨hT,h⟩
theorem sj {i:Nat}{r:List (Bool×Nat)}{o:Oper}{v:Zc}{a:Act}{w:Zb}(hS:S w)(ho:ops[i]?=some o)(hg:o.guard=none)(hr:∀w,S w→(execOp a.eval o).run P w=.ok (.value v) w)
  (h:Jt P ops Q S T r (a.put o.dst v) w):Jt P ops Q S T ((true,i)::r) a w:=
 ⟨hS,o,v,ho,.inl ⟨by simp[zU,hg],hr⟩,h⟩
end
theorem VF {lo hi n:Int}(h:E0 lo hi n=0):lo≤n∧n≤hi:=by
 refine GZ ?_;cases e:AD n lo hi
 ·rfl
 ·rw[E0,if_pos e]at h;cases h
theorem D8 {α:Type}{f:α→Int}:∀ {l:List α},A4 f l=0→∀(k:Nat) (x:α),l[k]?=some x→f x=0
 | [],_,k,x,h=>by simp at h
 |y::r,h0,k,x,h=>by
  unfold A4 at h0;split at h0
  ·next hy=>
   cases k with
   |zero=>simp at h;subst h;exact hy
   |succ k=>exact D8 h0 k x (by simpa using h)
  ·next hy=>exact absurd h0 hy
theorem VG {p:Int×Int}{lo hi:Int}(h:CK p lo hi=0):lo≤p.1∧p.1≤hi∧lo≤p.2∧p.2≤hi∧p.1≤p.2:=by
 unfold CK at h;split at h
 ·cases h
 ·next h1=>
  split at h
  ·cases h
  ·next h2=>
   have e1:AD p.1 lo hi=false:=by
    cases e:AD p.1 lo hi
    ·rfl
    ·exact absurd (.inl e) h1
   have e2:AD p.2 lo hi=false:=by
    cases e:AD p.2 lo hi
    ·rfl
    ·exact absurd (.inr e) h1
   have:=GZ e1;have:=GZ e2;omega
theorem ER {c:Aw}{l:List Int}(h:Cj c l=0):l.length=c.Aa.length∧∀i,i<l.length→(Aj c.Aa i).low≤nth l i∧nth l i≤(Aj c.Aa i).high:=by
 unfold Cj at h;split at h
 ·cases h
 ·split at h
  ·cases h
  ·refine⟨by omega,fun i hi=>?_⟩
   exact VF (D8 h i _ (Na hi (by omega)))
theorem Gg {c:Aw}(h:BR c=0):E6 c:=by
 obtain⟨hg,h1⟩:=Bc h;obtain⟨hz,h2⟩:=Bc h1;obtain⟨hs,h3⟩:=Bc h2;obtain⟨g1,h4⟩:=Bc hg;obtain⟨g2,h5⟩:=Bc h4;split at h5
 ·cases h5
 next g3=>
 obtain⟨g4,h6⟩:=Bc h5;split at h6
 ·cases h6
 next g5=>
 have Nz:∀i,i<c.Aa.length→Ev c i=0:=fun i hi=>by simpa using Ge hs i _ (Dk hi)
 have vt:Hj c.Aa=true:=by
  cases e:Hj c.Aa
  ·rw[e]at h3;cases h3
  ·rfl
 rw[vt,if_pos rfl]at h3;obtain⟨z1,z2⟩:=Jo g1;obtain⟨z3,z4⟩:=Jo hz;have e3:c.Ag.length=c.base.length:=YF fun x=>g3 x;have e5:c.hooks.length=c.base.length:=YF fun x=>g5 x;exact {
  E4:=⟨by omega,by omega⟩
  base:=fun i hi=>VF (D8 g2 i _ (Bo hi))
  Ui:=e3
  Ag:=fun i hi=>by have:=VG (D8 g4 i _ (D5 hi));omega
  hooks:=e5
  hook:=fun i hi=>VF (D8 h6 i _ (Bo hi))
  few:=⟨by omega,by omega⟩
  step:=fun i hi=>by have:=VG (Bc (Nz i hi)).1;simp only at this;omega
  Ak:=fun i hi=>by have:=Jo (Bc (Bc (Nz i hi)).2).1;omega
  pull:=fun i hi k hk=>by
   have:=Ge (Bc (Bc (Bc (Nz i hi)).2).2).1 k _ (D5 hk);unfold EP at this;split at this
   ·cases this
   next p1=>
   split at this
   ·cases this
   next p2=>
   have e1:AD (B1 (Aj c.Aa i).Ak k).1 0 ((c.base.length:Int) - 1)=false:=by
    cases e:AD (B1 (Aj c.Aa i).Ak k).1 0 ((c.base.length:Int) - 1)
    ·rfl
    ·exact absurd e p1
   have e2:AD (B1 (Aj c.Aa i).Ak k).2 (-4) 4=false:=by
    cases e:AD (B1 (Aj c.Aa i).Ak k).2 (-4) 4
    ·rfl
    ·exact absurd (.inr e) p2
   have:=GZ e1;have:=GZ e2;omega
  over:=R4 hz hs
  left:=fun i hi=>VF (Bc (Bc (Bc (Bc (Nz i hi)).2).2).2).2
  ring:=vt
  now:=h3}
theorem E6.yT {c:Aw}(h:E6 c):c.now.length=c.Aa.length:=(ER h.now).1
theorem R9 {c:Aw}(hv:E6 c){l:List Int}(h:Cj c l=0):∀i,i<l.length→-2≤nth l i∧nth l i≤2:=fun i hi=>by
 obtain⟨h1,h2⟩:=ER h;have:=h2 i hi;have:=hv.step i (by omega);omega
theorem Us {n:Nat}{s:List (Int×Int)}(h:Hl n s=0):s.length=n∧∀i,i<s.length→0≤(B1 s i).1∧(B1 s i).1≤99∧0≤(B1 s i).2∧(B1 s i).2≤99:=by
 unfold Hl at h;split at h
 ·cases h
 ·split at h
  ·cases h
  ·refine⟨by omega,fun i hi=>?_⟩
   have:=VG (D8 h i _ (D5 hi));omega
theorem Ut {s i n:Nat}(hs:s<2^n)(hi:i<n):IV s i<2^n:=
 Nat.or_lt_two_pow hs (by rw[Nat.one_shiftLeft];exact Nat.pow_lt_pow_right (by decide) hi)
theorem nV {ab:Nat→Nat}{i o n:Nat}(h:∀j,ab j<2^n)(ho:o<n):∀j,Qc ab i o j<2^n:=fun j=>by
 unfold Qc;split
 ·exact Nat.or_lt_two_pow (h i) (Ut (h o) ho)
 ·exact h j
theorem R_ {i n:Nat}:∀(l:List Int) (ab:Nat→Nat),(∀j,ab j<2^n)→(∀x∈l,0≤x∧x<n)→∀j,Ih ab i l j<2^n
 | [],_,h,_=>h
 |x::r,ab,h,hx=>R_ r _ (nV h (by have:=hx x (zF ..);omega)) fun y hy=>hx y (zr _ hy)
theorem Sa {n:Nat}:∀(l:List Ax) (ab:Nat→Nat) (i:Nat),(∀j,ab j<2^n)→(∀s∈l,∀x∈s.over,0≤x∧x<n)→∀j,Kw ab i l j<2^n
 | [],_,_,h,_=>h
 |s::r,ab,i,h,hx=>Sa r _ (i+1) (R_ s.over ab h (hx s (zF ..))) fun y hy=>hx y (zr _ hy)
theorem PH {n:Nat}{l:List Ax}(hx:∀s∈l,∀x∈s.over,0≤x∧x<n):∀(k:Nat) (ab:Nat→Nat),(∀j,ab j<2^n)→∀j,GR ab l k j<2^n
 |0,_,h=>h
 |k+1,ab,h=>PH hx k _ (Sa l ab 0 h hx)
theorem K3 {l:List Ax}(h:Jl l):∀j,Ay l j<2^l.length:=
 PH (fun s hs x hx=>by
  obtain⟨i,hi,rfl⟩:=aw hs;obtain⟨k,hk,rfl⟩:=fQ hx;exact h.over i hi k hk) _ _ fun _=>Nat.two_pow_pos _
theorem VH {l:List Ax}(h:Jl l):∀j,j<3→Ay l j<8:=fun j _=>
 Zl (K3 h j) (show 2^l.length≤2^3 from Nat.pow_le_pow_right (by decide) h.few)
theorem Ju {ab:Nat→Nat}{now:List Int}{n:Nat}(ha:∀i,ab i<2^n):∀(l:List Int) (k s:Nat),k+l.length≤n→s<2^n→Js ab now k l s<2^n
 | [],_,_,_,h=>h
 |y::r,k,s,hk,h=>by
  have h1:k+(r.length+1)≤n:=hk;refine Ju ha r (k+1) _ (by omega) ?_;split
  ·exact h
  ·exact Nat.or_lt_two_pow h (Ut (ha k) (by omega))
theorem Nk {t n:Nat}(h:t<2^n):∀x,x∈AB t→0≤x∧x<n:=fun x hx=>by
 unfold AB Fs at hx;obtain⟨i,hi,rfl⟩:=List.mem_map.1 hx;have hb:=(List.mem_filter.1 hi).2;refine⟨by omega,?_⟩;have:2^i≤t:=Nat.ge_two_pow_of_testBit hb;have:i<n:=by
  refine YF fun hni=>?_;have:=Nat.pow_le_pow_right (n:=2) (by decide) (Nat.le_of_not_lt hni);omega
 omega
theorem Sb {c:Aw}(hv:E6 c){l:List Int}(hl:l.length≤c.Aa.length):∀x,x∈AB (CG (Ay c.Aa) c.now l)→0≤x∧x<c.Aa.length:=
 Nk (Ju (K3 hv.over) l 0 0 (by omega) (Nat.two_pow_pos _))
def CH (c:Aw)(l:List Int):List Int:=(ZaB c.base.length).map (measure c l)
def fV (w:Zb)(l:List Int)(e:Int)(en:Ending)(w':Zb):Prop:=∃v,en=.returned (.tuple #[v,.int .i64 e])∧Zm w.heap.size w w'∧SI (Cy w.heap.size w') w' v l
def E8 (c:Aw)(l:List Int):List Int:=if BZ c l=0 then CH c l else []
theorem VI {S:Nat→Prop}{w:Zb}:SI S w (.slice none 0 0) []:=⟨none,0,rfl,Zj _,Zt _,fun i x hx=>by cases hx⟩
theorem dD {c:Aw}{l:List Int}{i:Nat}(h:i<c.base.length):(CH c l)[i]?=some (measure c l i):=by
 simp[CH,h]
theorem az {w w':Zb}{o:Obj}(h:Zm (w.alloc o).heap.size (w.alloc o) w'):w.heap.size<w'.heap.size:=by
 have:=h.size;rw[ZG]at this;omega
theorem js {c:Aw}(l:List Int)(hg:1≤c.base.length∧c.base.length≤3)(W:Zb):SI (fun b=>b=W.heap.size) (W.alloc (.cells #[.int .i64 (measure c l 0),.int .i64 (measure c l 1),.int .i64 (measure c l 2)] 150)) (.slice (some ⟨W.heap.size,0,none⟩) c.base.length 3) (CH c l):=by
 have hlen:(CH c l).length=c.base.length:=by simp[CH]
 refine⟨some ⟨W.heap.size,0,none⟩,3,by rw[hlen],by omega,by decide,fun i x hx=>?_⟩;have hi:i<c.base.length:=by rw[←hlen];exact(Zo.1 hx).1
 rw[dD hi]at hx;cases hx;refine⟨W.heap.size,0,[.int .i64 (measure c l i)],rfl,rfl,rfl,fun j u hu=>?_,rfl⟩;cases j with
 |zero=>
  cases hu;rw[show 0+i*1+0=i by omega];exact cn W (Td (measure c l)) 150 (Gf (by omega))
 |succ j=>cases hu
theorem c45 {S:Nat→Prop}{w:Zb}{v1 v2 v3 v4 v5 v6:Zc}{c:Aw}{l:List Int}(h:RC S w v1 v2 v3 v4 v5 c)(hl:SI S w v6 l)(hS:∀b,S b→b<w.heap.size):
  Calls Lp 45 #[.agg #[v1,v2,v3,v4,v5],v6] w (fV w (E8 c l) (BZ c l)):=by
 obtain⟨a1,c1,rfl,l1,m1⟩:=h.base.val;obtain⟨a2,c2,rfl,l2,m2⟩:=h.Ag.val;obtain⟨a3,c3,rfl,l3,m3⟩:=h.hooks.val;obtain⟨a4,c4,rfl,l4,m4⟩:=h.Aa.val;obtain⟨a5,c5,rfl,l5,m5⟩:=h.now.val;obtain⟨a6,c6,rfl,l6,m6⟩:=hl.val;have I3:=DN;have Bw:Zm w.heap.size w (w.alloc (.cells #[.slice a1 c.base.length c1,.slice a2 c.Ag.length c2,.slice a3 c.hooks.length c3,.slice a4 c.Aa.length c4,.slice a5 c.now.length c5] 26)):=(Zi _ _).alloc (Zj _) _;by_cases h0:BZ c l=0
 ·obtain⟨K4,FB⟩:=Bc h0
  have hv:=Gg K4;have HV:=Zh (show E8 c l=CH c l by rw[E8,if_pos h0]);have HA:=Zh h0;obtain⟨Vi,_⟩:=ER FB;have Hu:=Zh (fun W hB=>Qv (w:=W) (h.later hB) (hl.later hB) (A8 hS hB) K4);rw[FB]at Hu;have jq:=Zh (fun W hB=>afl (w:=W) (h.later hB) hv (hl.later hB) (by omega) (R9 hv FB) (A8 hS hB) (Ay c.Aa 0) (Ay c.Aa 1) (Ay c.Aa 2));have hg:=hv.E4;have pE:(c.base.length:Int)≤3:=by omega
  clear h0 K4 FB Vi;go_enter Lp.func45,n45;go_wp2_with (first|(go_at_call 112;refine(Hu.out _ Bw).mono ?_;rintro e w1 ⟨rfl,Bh⟩;have BA:=Bw.trans (Bh.mono Bw.size))|(go_at_call 113;refine(jq.out _ (bA BA)).mono ?_;rintro e w2 ⟨rfl,Dz⟩;obtain⟨Oh,Lf⟩:=EM Dz;have hz:=az Dz;have Ck:=(bA (o:=.cells #[.int .i64 (measure c l 0),.int .i64 (measure c l 1),.int .i64 (measure c l 2)] 150) ((bA BA).trans (Dz.mono (bA BA).size)));clear Hu jq)|(go_at_call 106;refine(jk (js l hg _) (by simp[CH];omega)).mono ?_;rintro e w3 ⟨v,rfl,DQ,mA⟩;have Nb:=Ck.trans (DQ.mono Ck.size)));go_ret2;exact⟨v,by rw[HA.out];rfl,Nb,by rw[HV.out];exact mA.imp (fun b hb=>⟨Zx Ck.size hb.1,hb.2⟩) fun _ _ h=>h⟩
 ·have HV:=Zh (show E8 c l=[] by rw[E8,if_neg h0])
  have HA:=Zh h0;have Hu:=Zh (fun W hB=>nK (w:=W) (h.later hB) (hl.later hB) (A8 hS hB));obtain⟨x,hx⟩:∃x,x=BZ c l:=⟨_,rfl⟩;have Og:x≠0:=by rw[hx];exact h0
  have HX:=Zh hx;clear h0 hx;go_enter Lp.func45,n45;go_wp2_with (go_at_call 112;refine(Hu.out _ Bw).mono ?_;rintro e w1 ⟨q1,q2,q3,q4,q5,n1,n2,n3,n4,n5,d1,d2,d3,d4,d5,k0,k1,k2,rfl,Bh,_⟩;have BA:=Bw.trans (Bh.mono Bw.size);rw[←HX.out]);go_ret2;refine⟨.slice none 0 0,by rw[HX.out];rfl,?_,by rw[HV.out];exact VI⟩
  repeat (with_reducible first|exact BA|refine bA ?_|(refine bS ?_ (by omega))|refine bD ?_|refine bN ?_)
def Sc (c:Aw)(l:List Int)(s:List (Int×Int)):Int:=PE (BZ c l) (Hl c.base.length s)
def PI (c:Aw)(l:List Int)(s:List (Int×Int)):Bool:=if Sc c l s=0 then DC c l s else false
theorem c62 {S:Nat→Prop}{w:Zb}{v1 v2 v3 v4 v5 v6 v7:Zc}{c:Aw}{l:List Int}{s:List (Int×Int)}(h:RC S w v1 v2 v3 v4 v5 c)(hl:SI S w v6 l)(hs:SP S w v7 s)(hS:∀b,S b→b<w.heap.size):
  Calls Lp 62 #[.agg #[v1,v2,v3,v4,v5],v6,v7] w fun e w'=>e=.returned (.tuple #[.bool (PI c l s),.int .i64 (Sc c l s)])∧Zm w.heap.size w w':=by
 obtain⟨a1,c1,rfl,l1,m1⟩:=h.base.val;obtain⟨a2,c2,rfl,l2,m2⟩:=h.Ag.val;obtain⟨a3,c3,rfl,l3,m3⟩:=h.hooks.val;obtain⟨a4,c4,rfl,l4,m4⟩:=h.Aa.val;obtain⟨a5,c5,rfl,l5,m5⟩:=h.now.val;obtain⟨a6,c6,rfl,l6,m6⟩:=hl.val;have I3:=DN;have Bw:Zm w.heap.size w (w.alloc (.cells #[.slice a1 c.base.length c1,.slice a2 c.Ag.length c2,.slice a3 c.hooks.length c3,.slice a4 c.Aa.length c4,.slice a5 c.now.length c5] 26)):=(Zi _ _).alloc (Zj _) _;obtain⟨a7,c7,rfl,l7,m7⟩:=hs.val;by_cases h0:BZ c l=0
 ·obtain⟨K4,FB⟩:=Bc h0
  have hv:=Gg K4;have HE:=Zh (show Sc c l s=Hl c.base.length s by rw[Sc,BP h0]);obtain⟨Vi,_⟩:=ER FB;have Hu:=Zh (fun W hB=>Qv (w:=W) (h.later hB) (hl.later hB) (A8 hS hB) K4);rw[FB]at Hu;have ju:=Zh (fun W hB=>afr (w:=W) (h.later hB) (hs.later hB) (A8 hS hB) (Ay c.Aa 0) (Ay c.Aa 1) (Ay c.Aa 2));by_cases hx:Hl c.base.length s=0
  ·obtain⟨yP,fR⟩:=Us hx
   rw[hx]at ju;have HV:=Zh (show PI c l s=DC c l s by rw[PI,HE.out,if_pos hx]);have HX:=Zh hx;have alP:=Zh (fun W hB=>afs (w:=W) (h.later hB) hv (hl.later hB) (hs.later hB) (by omega) (R9 hv FB) (by omega) fR (A8 hS hB) (Ay c.Aa 0) (Ay c.Aa 1) (Ay c.Aa 2));clear h0 K4 FB Vi hx yP fR;go_enter Lp.func62,n62;go_wp2_with (first|(go_at_call 112;refine(Hu.out _ Bw).mono ?_;rintro e w1 ⟨rfl,Bh⟩;have BA:=Bw.trans (Bh.mono Bw.size))|(go_at_call 101;refine(ju.out _ (bA BA)).mono ?_;rintro e w2 ⟨rfl,Dz⟩;obtain⟨Oh,Lf⟩:=EM Dz;have hz:=az Dz;have Ck:=(bA BA).trans (Dz.mono (bA BA).size))|(go_at_call 126;refine(alP.out _ Ck).mono ?_;rintro e w3 ⟨rfl,DQ⟩;have Nb:=Ck.trans (DQ.mono Ck.size)));go_ret2;exact⟨by rw[HV.out,HE.out,HX.out];rfl,Nb⟩
  ·have HV:=Zh (show PI c l s=false by rw[PI,HE.out,if_neg hx])
   obtain⟨x,km⟩:∃x,x=Hl c.base.length s:=⟨_,rfl⟩;rw[←km]at ju HE hx;clear h0 K4 FB Vi km;go_enter Lp.func62,n62;go_wp2_with (first|(go_at_call 112;refine(Hu.out _ Bw).mono ?_;rintro e w1 ⟨rfl,Bh⟩;have BA:=Bw.trans (Bh.mono Bw.size))|(go_at_call 101;refine(ju.out _ (bA BA)).mono ?_;rintro e w2 ⟨rfl,Dz⟩;obtain⟨Oh,Lf⟩:=EM Dz;have hz:=az Dz;have Ck:=(bA BA).trans (Dz.mono (bA BA).size)));go_ret2;exact⟨by rw[HV.out,HE.out];rfl,Ck⟩
 ·have HE:=Zh (show Sc c l s=BZ c l by rw[Sc,Ku h0])
  have HV:=Zh (show PI c l s=false by rw[PI,HE.out,if_neg h0]);have Hu:=Zh (fun W hB=>nK (w:=W) (h.later hB) (hl.later hB) (A8 hS hB));obtain⟨x,hx⟩:∃x,x=BZ c l:=⟨_,rfl⟩;have Og:x≠0:=by rw[hx];exact h0
  have HX:=Zh hx;clear h0 hx;go_enter Lp.func62,n62;go_wp2_with (go_at_call 112;refine(Hu.out _ Bw).mono ?_;rintro e w1 ⟨q1,q2,q3,q4,q5,n1,n2,n3,n4,n5,d1,d2,d3,d4,d5,k0,k1,k2,rfl,Bh,_⟩;have BA:=Bw.trans (Bh.mono Bw.size);rw[←HX.out]);go_ret2;refine⟨by rw[HV.out,HE.out,HX.out];rfl,?_⟩
  repeat (with_reducible first|exact BA|refine bA ?_|(refine bS ?_ (by omega))|refine bD ?_|refine bN ?_)
end Go.Proofs.Fit
