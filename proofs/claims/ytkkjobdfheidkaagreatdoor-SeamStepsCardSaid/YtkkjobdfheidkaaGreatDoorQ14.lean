/- Part of a proof. -/
import Derived.Test.YtkkjobdfheidkaaGreatDoorQ13
import Derived.Test.YtkkjobdfheidkaaGreatDoorQ09
set_option maxRecDepth 100000
set_option maxHeartbeats 6400000
open And renaming intro→zb
open Array renaming getElem?_eq_some_iff→Za,getElem?_setIfInBounds_ne→Zk,getElem?_setIfInBounds_self_of_lt→Z9
open Go renaming World→Zb,Value→Zc,TypeId→Zs,Program→Zp,undef→Ze,bodyPost_ret→ZX,wpQuiet_nil→Ye,below_drewN→Zan,info_parts→YC,wpList_append_own→ZaV
open Go.Lib renaming hid→Zh
open Go.Proofs.Tryz renaming underlying22→ZaF
open Go.Question renaming appendCap→zu
open Go.Result renaming andThen→zB
open Go.RowKit renaming Below→Zm
open Go.RowKit.Below renaming refl→Zi
open Go.Sem renaming run_bind→za
open Go.Value renaming int→ZT,slice→Zy
open Go.World renaming size_alloc→ZG,block_lt_of_cell?→ZH,ownsRow_nil→Yz
open List renaming getElem?_eq_some_iff→Zo,filterMap_cons→zQ,filterMap_nil→zW,getElem?_toArray→ZY,getElem?_cons_succ→ZO,getElem?_cons_zero→ZN,getElem?_take_of_lt→ZW,getElem?_drop→YA,getD_eq_getElem?_getD→zP,drop_eq_getElem_cons→Z4,drop_eq_nil_iff→zf,mem_cons_self→zF,mem_cons_of_mem→zr,getElem?_eq_getElem→Z7,ext_getElem?→YM,getElem?_map→ZaT,getElem?_eq_none→ZS
open Nat renaming le_refl→Zj,lt_of_lt_of_le→Zl,le_trans→Zx,zero_add→Ym,zero_le→Zt
open Option.some renaming inj→Z2
namespace Go.Proofs.Fit
open Go Go.RowKit
def D9 (c:Aw)(l:List Int):Nat:=CG (Ay c.Aa) c.now l
def D_ (c:Aw)(l:List Int):Int:=PE (BZ c l) (if Lh c (D9 c l)=none then 0 else 12)
def afu (w:Zb)(v1 v2 v3 v4 v5:Zc)(c:Aw)(l:List Int)(e:Ending)(w':Zb):Prop:=
 ∃(g:Array Zc) (t:Nat),e=.returned (.tuple #[.agg g,.int .u8 t,.int .i64 (D_ c l)])∧Zm w.heap.size w w'∧(D_ c l=0→g=Ba v1 v2 v3 v4 v5 (Ay c.Aa)∧t=D9 c l)∧(D_ c l≠0→g= #[.slice none 0 0,.slice none 0 0,.slice none 0 0,.slice none 0 0,.slice none 0 0,.int .u8 0,.int .u8 0,.int .u8 0]∧t=0)
theorem KA {fn:Func}{p u x:Tmp}{ty:Zs}(h:fn.results= #[.cell p ty,.tmp u,.tmp x])(tmps:Array Zc)(P:Zp)(w:Zb):
  (results fn tmps).run P w=((asAddr (tmps.getD p Ze)).run P w).andThen fun a w₁=>((loadVar ty a).run P w₁).andThen fun v w₂=>.ok (.tuple #[v,tmps.getD u Ze,tmps.getD x Ze]) w₂:=by
 simp only[results,h];simp[za,zB]
theorem alQ {S:Nat→Prop}{w:Zb}{v1 v2 v3 v4 v5 v6:Zc}{c:Aw}{l:List Int}(h:RC S w v1 v2 v3 v4 v5 c)(hl:SI S w v6 l)(hS:∀b,S b→b<w.heap.size):
  Calls Lp 119 #[.agg #[v1,v2,v3,v4,v5],v6] w (afu w v1 v2 v3 v4 v5 c l):=by
 obtain⟨a1,c1,rfl,l1,m1⟩:=h.base.val;obtain⟨a2,c2,rfl,l2,m2⟩:=h.Ag.val;obtain⟨a3,c3,rfl,l3,m3⟩:=h.hooks.val;obtain⟨a4,c4,rfl,l4,m4⟩:=h.Aa.val;obtain⟨a5,c5,rfl,l5,m5⟩:=h.now.val;obtain⟨a6,c6,rfl,l6,m6⟩:=hl.val;have I3:=DN;have Bw:Zm w.heap.size w (w.alloc (.cells #[.slice a1 c.base.length c1,.slice a2 c.Ag.length c2,.slice a3 c.hooks.length c3,.slice a4 c.Aa.length c4,.slice a5 c.now.length c5] 26)):=(Zi _ _).alloc (Zj _) _;by_cases h0:BZ c l=0
 ·obtain⟨K4,FB⟩:=Bc h0
  have hv:=Gg K4;have HE:=Zh (show D_ c l=if Lh c (D9 c l)=none then 0 else 12 by rw[D_,BP h0]);obtain⟨Vi,_⟩:=ER FB;have sk:=hv.yT;have hfw:=hv.few;have Hu:=Zh (fun W hB=>Qv (w:=W) (h.later hB) (hl.later hB) (A8 hS hB) K4);rw[FB]at Hu;have Qd:=Zh (fun W hB=>c90 (w:=W) (h.later hB) (hl.later hB) (by omega) (by omega) (VH hv.over) (Sb hv (by omega)) (A8 hS hB));change Hid (∀(W:Zb) (hB:Zm w.heap.size w W),Calls Lp 90 _ _ fun e w'=>e=.returned (afq (D9 c l) (Lh c (D9 c l)))∧Zm W.heap.size W w') at Qd;cases hx:Lh c (D9 c l) with
  |none=>
   rw[hx]at Qd;have HX:=Zh (show D_ c l=0 by rw[HE.out,if_pos hx]);obtain⟨t,ht⟩:∃t,t=D9 c l:=⟨_,rfl⟩;rw[←ht]at Qd;change Hid (∀(W:Zb) (hB:Zm w.heap.size w W),Calls Lp 90 _ _ fun e w'=>e=.returned (.tuple #[.int .u8 t,.nilIface])∧Zm W.heap.size W w') at Qd;have HT:=Zh ht;clear h0 K4 FB Vi sk hfw hx ht;go_enter Lp.func119,yG;go_wp2_with (first|(go_at_call 112;refine(Hu.out _ (bA Bw)).mono ?_;rintro e w1 ⟨rfl,Bh⟩;have BA:=(bA Bw).trans (Bh.mono (bA Bw).size);obtain⟨Fg,El⟩:=ai Bh;obtain⟨SM,vl⟩:=EM Bh)|(go_at_call 90;refine(Qd.out _ (bA BA)).mono ?_;rintro e w2 ⟨rfl,Dz⟩;obtain⟨Oh,Lf⟩:=EM Dz;have hz:=az Dz;have Ck:=(bA BA).trans (Dz.mono (bA BA).size)));refine ZX (v:=.tuple #[.agg #[.slice a1 c.base.length c1,.slice a2 c.Ag.length c2,.slice a3 c.hooks.length c3,.slice a4 c.Aa.length c4,.slice a5 c.now.length c5,.int .u8 (Ay c.Aa 0),.int .u8 (Ay c.Aa 1),.int .u8 (Ay c.Aa 2)],.int .u8 t,.int .i64 0]) (by rw[KA rfl];go_simp) rfl ?_;refine⟨Ba (.slice a1 c.base.length c1) (.slice a2 c.Ag.length c2) (.slice a3 c.hooks.length c3) (.slice a4 c.Aa.length c4) (.slice a5 c.now.length c5) (Ay c.Aa),t,by rw[HX.out];rfl,?_,fun _=>⟨rfl,HT.out⟩,fun x=>absurd HX.out x⟩
   repeat (with_reducible first|exact Ck|refine bA ?_|(refine bS ?_ (by omega))|refine bD ?_|refine bN ?_)
  |some x=>
   rw[hx]at Qd;have HX:=Zh (show D_ c l=12 by rw[HE.out,if_neg (by rw[hx];simp)]);obtain⟨t,ht⟩:∃t,t=D9 c l:=⟨_,rfl⟩;rw[←ht]at Qd;change Hid (∀(W:Zb) (hB:Zm w.heap.size w W),Calls Lp 90 _ _ fun e w'=>e=.returned (.tuple #[.int .u8 0,.iface 121 (.agg #[.int .i64 x])])∧Zm W.heap.size W w') at Qd;clear h0 K4 FB Vi sk hfw hx ht;go_enter Lp.func119,yG;go_wp2_with (first|(go_at_call 112;refine(Hu.out _ (bA Bw)).mono ?_;rintro e w1 ⟨rfl,Bh⟩;have BA:=(bA Bw).trans (Bh.mono (bA Bw).size);obtain⟨Fg,El⟩:=ai Bh;obtain⟨SM,vl⟩:=EM Bh)|(go_at_call 90;refine(Qd.out _ (bA BA)).mono ?_;rintro e w2 ⟨rfl,Dz⟩;obtain⟨Oh,Lf⟩:=EM Dz;have hz:=az Dz;have Ck:=(bA BA).trans (Dz.mono (bA BA).size)));refine ZX (v:=.tuple #[.agg #[.slice none 0 0,.slice none 0 0,.slice none 0 0,.slice none 0 0,.slice none 0 0,.int .u8 0,.int .u8 0,.int .u8 0],.int .u8 0,.int .i64 12]) (by rw[KA rfl];go_simp) rfl ?_;refine⟨#[.slice none 0 0,.slice none 0 0,.slice none 0 0,.slice none 0 0,.slice none 0 0,.int .u8 0,.int .u8 0,.int .u8 0],0,by rw[HX.out];rfl,?_,fun y=>absurd (HX.out.symm.trans y) (by decide),fun _=>⟨rfl,rfl⟩⟩
   repeat (with_reducible first|exact Ck|refine bA ?_|(refine bS ?_ (by omega))|refine bD ?_|refine bN ?_)
 ·have HE:=Zh (show D_ c l=BZ c l by rw[D_,Ku h0])
  have Hu:=Zh (fun W hB=>nK (w:=W) (h.later hB) (hl.later hB) (A8 hS hB));obtain⟨x,hx⟩:∃x,x=BZ c l:=⟨_,rfl⟩;have Og:x≠0:=by rw[hx];exact h0
  have HX:=Zh hx;clear h0 hx;go_enter Lp.func119,yG;go_wp2_with (go_at_call 112;refine(Hu.out _ (bA Bw)).mono ?_;rintro e w1 ⟨q1,q2,q3,q4,q5,n1,n2,n3,n4,n5,d1,d2,d3,d4,d5,k0,k1,k2,rfl,Bh,_⟩;have BA:=(bA Bw).trans (Bh.mono (bA Bw).size);rw[←HX.out];obtain⟨Oh,Lf⟩:=EM Bh;obtain⟨Fg,El⟩:=ai Bh);refine ZX (v:=.tuple #[.agg #[.slice none 0 0,.slice none 0 0,.slice none 0 0,.slice none 0 0,.slice none 0 0,.int .u8 0,.int .u8 0,.int .u8 0],.int .u8 0,.int .i64 x]) (by rw[KA rfl];go_simp) rfl ?_;refine⟨#[.slice none 0 0,.slice none 0 0,.slice none 0 0,.slice none 0 0,.slice none 0 0,.int .u8 0,.int .u8 0,.int .u8 0],0,by rw[HE.out, ←HX.out];rfl,?_,fun y=>absurd ((HX.out.trans HE.out.symm).trans y) Og,fun _=>⟨rfl,rfl⟩⟩
  repeat (with_reducible first|exact BA|refine bA ?_|(refine bS ?_ (by omega))|refine bD ?_|refine bN ?_)
def NA (m q b:Nat):Prop:=m≤b∧b<q
def NB (q:Nat)(w:Zb)(b:Nat):Prop:=q<b∧b<w.heap.size
structure CW (S:Nat→Prop)(w:Zb)(m q cap:Nat)(u1 u2 u3 u5:Zc)(c:Aw)(k:Nat)(cur:Array Zc)(wr:Zb):Prop where
 below:Zm w.heap.size w wr
 res:wr.heap[w.heap.size+1]?=some (.cells #[.slice none 0 0,.slice none 0 0,.slice none 0 0,.slice none 0 0,.slice none 0 0] 26 (0,0))
 box:wr.heap[w.heap.size+1+1]?=some (.cells #[u1,u2,u3,.slice (some ⟨q,0,none⟩) c.Aa.length cap,u5] 26 (0,0))
 base:SI (NA m q) wr u1 c.base
 Ag:SP (NA m q) wr u2 c.Ag
 hooks:SI (NA m q) wr u3 c.hooks
 now:SI (NA m q) wr u5 c.now
 arr:wr.heap[q]?=some (.cells cur 62 (0,0))
 at_:∀i,i<c.Aa.length→∃v2 v3,cur[i*5]?=some (.int .i64 (Aj c.Aa i).low)∧cur[i*5+1]?=some (.int .i64 (Aj c.Aa i).high)∧cur[i*5+2]?=some v2∧cur[i*5+3]?=some v3∧cur[i*5+4]?=some (.int .i64 (Aj c.Aa i).left)∧
  ((i<k∧SP (NB q wr) wr v2 (Aj c.Aa i).Ak∧SI (NB q wr) wr v3 (Aj c.Aa i).over)∨(k≤i∧SP S w v2 (Aj c.Aa i).Ak∧SI S w v3 (Aj c.Aa i).over))
theorem Cf.same {q:Nat}{wr W:Zb}{T:Nat→Prop}(h:Cf q wr W)(hT:∀b,T b→b≠q):CC T wr W:=fun b hb hl=>h.block b hl (hT b hb)
theorem NB.mono {q:Nat}{w W:Zb}(h:w.heap.size≤W.heap.size){b:Nat}(hb:NB q w b):NB q W b:=⟨hb.1,Zl hb.2 h⟩
theorem CW.later {S:Nat→Prop}{w wr W:Zb}{m q cap k:Nat}{u1 u2 u3 u5:Zc}{c:Aw}{cur:Array Zc}(h:CW S w m q cap u1 u2 u3 u5 c k cur wr)(hB:Zm wr.heap.size wr W):CW S w m q cap u1 u2 u3 u5 c k cur W:=
 {below:=h.below.trans (hB.mono h.below.size),res:=(hB.block _ (Za.1 h.res).1).trans h.res,box:=(hB.block _ (Za.1 h.box).1).trans h.box,base:=h.base.later hB,Ag:=h.Ag.later hB,hooks:=h.hooks.later hB,now:=h.now.later hB,arr:=(hB.block _ (Za.1 h.arr).1).trans h.arr,at_:=fun i hi=>by
   obtain⟨v2,v3,e0,e1,e2,e3,e4,hx⟩:=h.at_ i hi;refine⟨v2,v3,e0,e1,e2,e3,e4,?_⟩;rcases hx with⟨hk,x2,x3⟩|hx
   ·exact .inl ⟨hk,(x2.later hB).imp (fun b hb=>hb.mono hB.size) (fun _ _ x=>x),(x3.later hB).imp (fun b hb=>hb.mono hB.size) (fun _ _ x=>x)⟩
   ·exact .inr hx}
theorem CW.next {S:Nat→Prop}{w wr W:Zb}{m q cap k:Nat}{u1 u2 u3 u5 v2' v3':Zc}{c:Aw}{cur:Array Zc}(h:CW S w m q cap u1 u2 u3 u5 c k cur wr)(hk:k<c.Aa.length)(hB:Cf q wr W)(hq:w.heap.size+1+1<q)
  (ha:W.heap[q]?=some (.cells ((cur.setIfInBounds (k*5+2) v2').setIfInBounds (k*5+3) v3') 62 (0,0))) (h2:SP (NB q W) W v2' (Aj c.Aa k).Ak) (h3:SI (NB q W) W v3' (Aj c.Aa k).over):
  CW S w m q cap u1 u2 u3 u5 c (k+1) ((cur.setIfInBounds (k*5+2) v2').setIfInBounds (k*5+3) v3') W:=by
 have D1:=h.below.size;have hwq:∀b,NA m q b→b≠q:=fun b hb e=>by have:=hb.2;omega
 refine {below:=⟨hB.os.trans h.below.os,hB.tape.trans h.below.tape,hB.output.trans h.below.output,Zx h.below.size hB.size,fun b hb=>(hB.block b (by omega) (by omega)).trans (h.below.block b hb)⟩,res:=(hB.block _ (Za.1 h.res).1 (by omega)).trans h.res,box:=(hB.block _ (Za.1 h.box).1 (by omega)).trans h.box,base:=h.base.Au (hB.same hwq),Ag:=h.Ag.Au (hB.same hwq),hooks:=h.hooks.Au (hB.same hwq),now:=h.now.Au (hB.same hwq),arr:=ha,at_:=fun i hi=>?_};obtain⟨v2,v3,e0,e1,e2,e3,e4,hx⟩:=h.at_ i hi;have z2:=(Za.1 e2).1;have z3:=(Za.1 e3).1;by_cases su:i=k
 ·subst su
  refine⟨v2',v3',?_,?_,?_,?_,?_,.inl ⟨by omega,h2,h3⟩⟩
  ·rw[Zk (by omega),Zk (by omega)];exact e0
  ·rw[Zk (by omega),Zk (by omega)];exact e1
  ·rw[Zk (by omega),Z9 z2]
  ·rw[Z9 (by simpa using z3)]
  ·rw[Zk (by omega),Zk (by omega)];exact e4
 ·refine⟨v2,v3,?_,?_,?_,?_,?_,?_⟩
  ·rw[Zk (by omega),Zk (by omega)];exact e0
  ·rw[Zk (by omega),Zk (by omega)];exact e1
  ·rw[Zk (by omega),Zk (by omega)];exact e2
  ·rw[Zk (by omega),Zk (by omega)];exact e3
  ·rw[Zk (by omega),Zk (by omega)];exact e4
  ·rcases hx with⟨JS,x2,x3⟩|⟨JS,hx⟩
   ·have hs:CC (NB q wr) wr W:=hB.same (fun b hb e=>by have:=hb.1;omega)
    exact .inl ⟨by omega,(x2.Au hs).imp (fun b hb=>hb.mono hB.size) (fun _ _ x=>x),(x3.Au hs).imp (fun b hb=>hb.mono hB.size) (fun _ _ x=>x)⟩
   ·exact .inr ⟨by omega,hx⟩
theorem RC.imp {S T:Nat→Prop}{w:Zb}{v1 v2 v3 v4 v5:Zc}{c:Aw}(h:RC S w v1 v2 v3 v4 v5 c)(hs:∀b,S b→T b):RC T w v1 v2 v3 v4 v5 c:=
 ⟨h.base.imp hs fun _ _ x=>x,h.Ag.imp hs fun _ _ x=>x,h.hooks.imp hs fun _ _ x=>x,Sl.imp h.Aa hs fun _ _ ⟨v2,v3,e,x2,x3⟩=>⟨v2,v3,e,x2.imp hs fun _ _ x=>x,x3.imp hs fun _ _ x=>x⟩,h.now.imp hs fun _ _ x=>x⟩
def NR (q r b:Nat):Prop:=q<b∧b<r
structure CD (wr:Zb)(m q r cap:Nat)(u1 u2 u3:Zc)(c:Aw)(cur:Array Zc):Prop where
 base:SI (NA m q) wr u1 c.base
 Ag:SP (NA m q) wr u2 c.Ag
 hooks:SI (NA m q) wr u3 c.hooks
 arr:wr.heap[q]?=some (.cells cur 62 (0,0))
 at_:∀i,i<c.Aa.length→∃v2 v3,cur[i*5]?=some (.int .i64 (Aj c.Aa i).low)∧cur[i*5+1]?=some (.int .i64 (Aj c.Aa i).high)∧cur[i*5+2]?=some v2∧cur[i*5+3]?=some v3∧cur[i*5+4]?=some (.int .i64 (Aj c.Aa i).left)∧
  SP (NR q r) wr v2 (Aj c.Aa i).Ak∧SI (NR q r) wr v3 (Aj c.Aa i).over
 nW:c.Aa.length≤cap
 nX:cap≤maxLen
 mq:m≤q
 qr:q<r
 rw_:r≤wr.heap.size
theorem CW.cd {S:Nat→Prop}{w wr:Zb}{m q cap:Nat}{u1 u2 u3 u5:Zc}{c:Aw}{cur:Array Zc}(h:CW S w m q cap u1 u2 u3 u5 c c.Aa.length cur wr)(h1:c.Aa.length≤cap)(h2:cap≤maxLen)(nY:m≤q):CD wr m q wr.heap.size cap u1 u2 u3 c cur:=
 ⟨h.base,h.Ag,h.hooks,h.arr,fun i hi=>by
  obtain⟨v2,v3,e0,e1,e2,e3,e4,hx⟩:=h.at_ i hi;exact⟨v2,v3,e0,e1,e2,e3,e4,(hx.resolve_right (fun z=>absurd z.1 (by omega))).2⟩,h1,h2,nY,(Za.1 h.arr).1,Zj _⟩
theorem CD.Au {wr W:Zb}{m q r cap b:Nat}{u1 u2 u3:Zc}{c:Aw}{cur:Array Zc}(h:CD wr m q r cap u1 u2 u3 c cur)(hB:Cf b wr W)(hb:b<m∨r≤b):CD W m q r cap u1 u2 u3 c cur:=by
 have nY:=h.mq;have jv:=h.qr;have hA:CC (NA m q) wr W:=hB.same (fun x hx e=>by have:=hx.1;have:=hx.2;omega);have hN:CC (NR q r) wr W:=hB.same (fun x hx e=>by have:=hx.1;have:=hx.2;omega);refine⟨h.base.Au hA,h.Ag.Au hA,h.hooks.Au hA,(hB.block q (Za.1 h.arr).1 (by omega)).trans h.arr,fun i hi=>?_,h.nW,h.nX,h.mq,h.qr,Zx h.rw_ hB.size⟩;obtain⟨v2,v3,e0,e1,e2,e3,e4,x2,x3⟩:=h.at_ i hi;exact⟨v2,v3,e0,e1,e2,e3,e4,x2.Au hN,x3.Au hN⟩
theorem CD.later {wr W:Zb}{m q r cap:Nat}{u1 u2 u3:Zc}{c:Aw}{cur:Array Zc}(h:CD wr m q r cap u1 u2 u3 c cur)(hB:Zm wr.heap.size wr W):CD W m q r cap u1 u2 u3 c cur:=by
 refine⟨h.base.later hB,h.Ag.later hB,h.hooks.later hB,(hB.block q (Za.1 h.arr).1).trans h.arr,fun i hi=>?_,h.nW,h.nX,h.mq,h.qr,Zx h.rw_ hB.size⟩;obtain⟨v2,v3,e0,e1,e2,e3,e4,x2,x3⟩:=h.at_ i hi;exact⟨v2,v3,e0,e1,e2,e3,e4,x2.later hB,x3.later hB⟩
theorem CD.rc {T:Nat→Prop}{wr:Zb}{m q r cap:Nat}{u1 u2 u3 u5:Zc}{c:Aw}{cur:Array Zc}(h:CD wr m q r cap u1 u2 u3 c cur)(h5:SI T wr u5 c.now)(hT:∀b,m≤b→b<r→T b):RC T wr u1 u2 u3 (.slice (some ⟨q,0,none⟩) c.Aa.length cap) u5 c:=by
 have nY:=h.mq;have jv:=h.qr;have hA:∀b,NA m q b→T b:=fun b hb=>hT b hb.1 (Nat.lt_trans hb.2 jv);have DT:∀b,NR q r b→T b:=fun b hb=>hT b (Zx nY (Nat.le_of_lt hb.1)) hb.2;refine⟨h.base.imp hA fun _ _ x=>x,h.Ag.imp hA fun _ _ x=>x,h.hooks.imp hA fun _ _ x=>x,⟨_,_,rfl,h.nW,h.nX,fun i x hx=>?_⟩,h5⟩;have hi:=(Zo.1 hx).1;have km:x=Aj c.Aa i:=by have:=Dk hi;rw[hx]at this;exact Z2 this
 subst km;obtain⟨v2,v3,e0,e1,e2,e3,e4,x2,x3⟩:=h.at_ i hi;refine⟨q,0,[.int .i64 (Aj c.Aa i).low,.int .i64 (Aj c.Aa i).high,v2,v3,.int .i64 (Aj c.Aa i).left],rfl,hT q nY jv,rfl,fun j u hu=>?_,v2,v3,rfl,x2.imp DT fun _ _ x=>x,x3.imp DT fun _ _ x=>x⟩;rw[Ym];refine ch h.arr ?_
 match j,hu with
 |0,hu=>cases hu;exact e0
 |1,hu=>cases hu;exact e1
 |2,hu=>cases hu;exact e2
 |3,hu=>cases hu;exact e3
 |4,hu=>cases hu;exact e4
def yU (w:Zb)(c:Aw)(e:Ending)(w':Zb):Prop:=∃(m q r cap:Nat) (u1 u2 u3 u5:Zc) (cur:Array Zc),e=.returned (.agg #[u1,u2,u3,.slice (some ⟨q,0,none⟩) c.Aa.length cap,u5])∧Zm w.heap.size w w'∧w.heap.size≤m∧CD w' m q r cap u1 u2 u3 c cur∧SI (NA m q) w' u5 c.now
theorem alR {S:Nat→Prop}{w:Zb}{v1 v2 v3 v4 v5:Zc}{c:Aw}(h:RC S w v1 v2 v3 v4 v5 c)(hS:∀b,S b→b<w.heap.size)(fO:c.base.length≤1000)(hle:c.Ag.length≤1000)(yV:c.hooks.length≤1000)(Wj:c.Aa.length≤1000)(Ff:0<c.Aa.length)(Vi:c.now.length≤1000)(vu:∀i,i<c.Aa.length→(Aj c.Aa i).Ak.length≤1000∧(Aj c.Aa i).over.length≤1000)(s0 s1 s2:Nat):
  Calls Lp 150 #[.agg #[v1,v2,v3,v4,v5,.int .u8 s0,.int .u8 s1,.int .u8 s2]] w (yU w c):=by
 obtain⟨a1,c1,rfl,l1,m1⟩:=h.base.val;obtain⟨a2,c2,rfl,l2,m2⟩:=h.Ag.val;obtain⟨a3,c3,rfl,l3,m3⟩:=h.hooks.val;obtain⟨a4,c4,rfl,l4,m4⟩:=h.Aa.val;obtain⟨a5,c5,rfl,l5,m5⟩:=h.now.val;have I3:=DN;go_enter Lp.func150,ald;go_wp2;obtain⟨W3,Hd⟩:∃W3,W3=(((w.alloc (.cells #[.slice a1 c.base.length c1,.slice a2 c.Ag.length c2,.slice a3 c.hooks.length c3,.slice a4 c.Aa.length c4,.slice a5 c.now.length c5,.int .u8 s0,.int .u8 s1,.int .u8 s2] 112)).alloc (.cells #[.slice none 0 0,.slice none 0 0,.slice none 0 0,.slice none 0 0,.slice none 0 0] 26)).alloc (.cells #[.slice a1 c.base.length c1,.slice a2 c.Ag.length c2,.slice a3 c.hooks.length c3,.slice a4 c.Aa.length c4,.slice a5 c.now.length c5] 26)):=⟨_,rfl⟩;have BA:Zm w.heap.size w W3:=by rw[Hd];exact bA (bA (bA (Zi _ _)))
 have F1:W3.heap[w.heap.size+1+1]?=some (.cells #[.slice a1 c.base.length c1,.slice a2 c.Ag.length c2,.slice a3 c.hooks.length c3,.slice a4 c.Aa.length c4,.slice a5 c.now.length c5] 26 (0,0)):=by
  rw[Hd];have:=Bv ((w.alloc (.cells #[.slice a1 c.base.length c1,.slice a2 c.Ag.length c2,.slice a3 c.hooks.length c3,.slice a4 c.Aa.length c4,.slice a5 c.now.length c5,.int .u8 s0,.int .u8 s1,.int .u8 s2] 112)).alloc (.cells #[.slice none 0 0,.slice none 0 0,.slice none 0 0,.slice none 0 0,.slice none 0 0] 26)) (.cells #[.slice a1 c.base.length c1,.slice a2 c.Ag.length c2,.slice a3 c.hooks.length c3,.slice a4 c.Aa.length c4,.slice a5 c.now.length c5] 26);rwa[ZG,ZG]at this
 have Sd:W3.heap[w.heap.size+1]?=some (.cells #[.slice none 0 0,.slice none 0 0,.slice none 0 0,.slice none 0 0,.slice none 0 0] 26 (0,0)):=by
  rw[Hd];exact Bm (by have:=Bv (w.alloc (.cells #[.slice a1 c.base.length c1,.slice a2 c.Ag.length c2,.slice a3 c.hooks.length c3,.slice a4 c.Aa.length c4,.slice a5 c.now.length c5,.int .u8 s0,.int .u8 s1,.int .u8 s2] 112)) (.cells #[.slice none 0 0,.slice none 0 0,.slice none 0 0,.slice none 0 0,.slice none 0 0] 26);rwa[ZG]at this) _
 rw[←Hd];clear Hd;have z0:=fun p=>Aq p (ch (i:=0) F1 (v:=.slice a1 c.base.length c1) rfl);have z1:=fun p=>Aq p (ch (i:=1) F1 (v:=.slice a2 c.Ag.length c2) rfl);have z2:=fun p=>Aq p (ch (i:=2) F1 (v:=.slice a3 c.hooks.length c3) rfl);have z4:=fun p=>Aq p (ch (i:=4) F1 (v:=.slice a5 c.now.length c5) rfl);refine C5 (S:=fun W=>∃p,W=calm W3 p) [12,13,14,15,16,17,18,19] [(false,2),(true,12),(false,5),(false,8),(false,11),(false,13),(false,14),(false,15),(false,16),(false,17),(false,18),(false,19)] [0,1,3,4,6,7,9,10] (by kernel_rfl) (fun _ _ d _ _ h=>by cases d<;>exact h) (by kernel_rfl) (AK (Zi _ _).drew) ?_;refine Bf _ _ (by kernel_rfl) ?_;simp only[zQ,zW,ZY,ZO,ZN]
 repeat (first|go_big_quiet_step (fail)|quiet_step (fail))
 refine Ye ?_;clear z0 z1 z2 z4;change DR _ _ _ _ _ _ _;have hD3:=BA.drew;have kG:Zm W3.heap.size W3 W3.drew:=(Zi _ _).drew;refine Ee (f:=106) (args:= #[.slice a1 c.base.length c1]) rfl rfl (by go_simp) ((jk (h.later hD3).base fO).mono ?_);rintro e W4 ⟨u1,rfl,Dz,pP⟩;have K5:=kG.trans (Dz.mono kG.size);refine⟨u1,rfl,.inr (AK K5),?_⟩;have hD4:=BA.trans (K5.mono BA.size);refine Nd (v:=.pointer (some ⟨w.heap.size+1+1,0,none⟩)) rfl rfl (fun w=>by go_simp) ?_;refine Ee (f:=166) (args:= #[.slice a2 c.Ag.length c2]) rfl rfl (by go_simp) ((alF (h.later hD4).Ag hle).mono ?_);rintro e W5 ⟨u2,rfl,Ck,KB⟩;have nZ:=K5.trans (Ck.mono K5.size);refine⟨u2,rfl,.inr (AK nZ),?_⟩;have hD5:=BA.trans (nZ.mono BA.size);refine Ee (f:=106) (args:= #[.slice a3 c.hooks.length c3]) rfl rfl (by go_simp) ((jk (h.later hD5).hooks yV).mono ?_);rintro e W6 ⟨u3,rfl,DQ,Mx⟩;have Uu:=nZ.trans (DQ.mono nZ.size);refine⟨u3,rfl,.inr (AK Uu),?_⟩;have hD6:=BA.trans (Uu.mono BA.size);refine Ee (f:=106) (args:= #[.slice a5 c.now.length c5]) rfl rfl (by go_simp) ((jk (h.later hD6).now Vi).mono ?_);rintro e W7 ⟨u5,rfl,Nb,pQ⟩;have hX7:=Uu.trans (Nb.mono Uu.size);refine⟨u5,rfl,.inr (AK hX7),?_⟩;have hD7:=BA.trans (hX7.mono BA.size);have Tg:=(hX7.block _ (Za.1 F1).1).trans F1;have hR7:=(hX7.block _ (Za.1 Sd).1).trans Sd;have atB:=BA.size;have k5:=DQ.trans (Nb.mono DQ.size);have k4:=Ck.trans (k5.mono Ck.size);have pP:SI (Cy W3.drew.heap.size W4) W4 u1 c.base:=pP;have KB:SP (Cy W4.heap.size W5) W5 u2 c.Ag:=KB;have Mx:SI (Cy W5.heap.size W6) W6 u3 c.hooks:=Mx;have pQ:SI (Cy W6.heap.size W7) W7 u5 c.now:=pQ;have n1:SI (Cy W3.heap.size W7) W7 u1 c.base:=(pP.later k4).imp (fun b hb=>Cy.mono (m:=W3.heap.size) k4.size kG.size hb) (fun _ _ x=>x);have n2:SP (Cy W3.heap.size W7) W7 u2 c.Ag:=(KB.later k5).imp (fun b hb=>Cy.mono (m:=W3.heap.size) k5.size K5.size hb) (fun _ _ x=>x);have n3:SI (Cy W3.heap.size W7) W7 u3 c.hooks:=(Mx.later Nb).imp (fun b hb=>Cy.mono (m:=W3.heap.size) Nb.size nZ.size hb) (fun _ _ x=>x);have n5:SI (Cy W3.heap.size W7) W7 u5 c.now:=pQ.imp (fun b hb=>Cy.mono (m:=W3.heap.size) (Zj _) Uu.size hb) (fun _ _ x=>x);refine K2 _ _ _ (by kernel_rfl) (fun x hx w=>.inl ?_) ?_
 ·revert x;decide
 simp only[F0,ZY,ZO,ZN];obtain⟨p1,d1,rfl,y1,x1⟩:=n1.val;obtain⟨p2,d2,rfl,y2,x2⟩:=n2.val;obtain⟨p3,d3,rfl,y3,x3⟩:=n3.val;obtain⟨p5,d5,rfl,y5,x5⟩:=n5.val;have g0:=ch (i:=0) Tg (v:=.slice a1 c.base.length c1) rfl;have g1:=ch (i:=1) Tg (v:=.slice a2 c.Ag.length c2) rfl;have g2:=ch (i:=2) Tg (v:=.slice a3 c.hooks.length c3) rfl;have g3:=ch (i:=3) Tg (v:=.slice a4 c.Aa.length c4) rfl;have g4:=ch (i:=4) Tg (v:=.slice a5 c.now.length c5) rfl;have f0:=cf (i:=0) Tg;have f1:=cf (i:=1) Tg;have f2:=cf (i:=2) Tg;have f3:=cf (i:=3) Tg;have f4:=cf (i:=4) Tg;clear Dz Ck DQ Nb K5 nZ Uu kG hD3 hD4 hD5 hD6 pP KB Mx pQ;have atC:=hX7.size;have hm3:w.heap.size+1+1<W3.heap.size:=(Za.1 F1).1;go_wp2_with (fail);obtain⟨W8,hW8⟩:∃W8,W8=((((W7.setCell ⟨w.heap.size+1+1,0,none⟩ (.slice p1 c.base.length d1)).setCell ⟨w.heap.size+1+1,1,none⟩ (.slice p2 c.Ag.length d2)).setCell ⟨w.heap.size+1+1,2,none⟩ (.slice p3 c.hooks.length d3)).setCell ⟨w.heap.size+1+1,4,none⟩ (.slice p5 c.now.length d5)):=⟨_,rfl⟩;rw[←hW8];have pR:W8.heap[w.heap.size+1+1]?=some (.cells #[.slice p1 c.base.length d1,.slice p2 c.Ag.length d2,.slice p3 c.hooks.length d3,.slice a4 c.Aa.length c4,.slice p5 c.now.length d5] 26 (0,0)):=by
  rw[hW8];exact A5 (A5 (A5 (A5 Tg _) _) _) _
 have sx:Cf (w.heap.size+1+1) W7 W8:=by rw[hW8];exact(((Cf.refl _ _).set.set).set).set
 have IX:Zm w.heap.size w W8:=by rw[hW8];exact bS (bS (bS (bS hD7 (by omega)) (by omega)) (by omega)) (by omega)
 have hR8:W8.heap[w.heap.size+1]?=some (.cells #[.slice none 0 0,.slice none 0 0,.slice none 0 0,.slice none 0 0,.slice none 0 0] 26 (0,0)):=(sx.block _ (Za.1 hR7).1 (by omega)).trans hR7;have vq:CC (Cy W3.heap.size W7) W7 W8:=sx.same (fun b hb e=>by have:=hb.1;omega);have hz8:=sx.size;clear hW8 g0 g1 g2 g3 g4 f0 f1 f2 f3 f4;refine(afo (h.later IX).Aa Wj Ff).mono ?_;rintro e W9 ⟨v4,news,rfl,I5,AY,M4⟩;rcases AY.2 with⟨_,hz⟩|⟨q,cap,cur,rfl,VE,Ng,I7,hq4,jw,fW⟩
 ·omega
 have hK9:=(I5.block _ (Za.1 pR).1).trans pR;have hR9:=(I5.block _ (Za.1 hR8).1).trans hR8;have g3:=ch (i:=3) hK9 (v:=.slice a4 c.Aa.length c4) rfl;have f3:=cf (i:=3) hK9;have hqW:=(Za.1 Ng).1;have nY:w.heap.size+1+1<q:=by omega
 have hC0:CW S w W3.heap.size q cap (.slice p1 c.base.length d1) (.slice p2 c.Ag.length d2) (.slice p3 c.hooks.length d3) (.slice p5 c.now.length d5) c 0 cur (W9.setCell ⟨w.heap.size+1+1,3,none⟩ (.slice (some ⟨q,0,none⟩) c.Aa.length cap)):=by
  have hU9:Cf (w.heap.size+1+1) W7 (W9.setCell ⟨w.heap.size+1+1,3,none⟩ (.slice (some ⟨q,0,none⟩) c.Aa.length cap)):=(sx.below I5).set;have yW:CC (Cy W3.heap.size W7) W7 (W9.setCell ⟨w.heap.size+1+1,3,none⟩ (.slice (some ⟨q,0,none⟩) c.Aa.length cap)):=hU9.same (fun b hb e=>by have:=hb.1;omega);have eC:CC S W8 w:=fun b hb _=>(IX.block b (hS b hb)).symm;have hNA:∀b,Cy W3.heap.size W7 b→NA W3.heap.size q b:=fun b hb=>⟨hb.1,Zl hb.2 (by omega)⟩;refine⟨bS (IX.trans (I5.mono IX.size)) (by omega),(AW (by omega) _).trans hR9,A5 hK9 _,(n1.Au yW).imp hNA fun _ _ x=>x,(n2.Au yW).imp hNA fun _ _ x=>x,(n3.Au yW).imp hNA fun _ _ x=>x,(n5.Au yW).imp hNA fun _ _ x=>x,(AW (by omega) _).trans Ng,fun i hi=>?_⟩;obtain⟨v2,v3,e,x2,x3⟩:=M4 i _ (Dk hi);have ak:∀j u,[.int .i64 (Aj c.Aa i).low,.int .i64 (Aj c.Aa i).high,v2,v3,.int .i64 (Aj c.Aa i).left][j]?=some u→cur[i*5+j]?=some u:=fun j u hu=>by
   have hj:j<5:=by have:=(Zo.1 hu).1;simpa using this
   rw[←e,ZW hj,YA, ←fW,ZW (by have:=fP hi hj;omega)]at hu;simpa using hu
  exact⟨v2,v3,ak 0 _ rfl,ak 1 _ rfl,ak 2 _ rfl,ak 3 _ rfl,ak 4 _ rfl,.inr ⟨Zt _,x2.Au eC,x3.Au eC⟩⟩
 have hz9:W8.heap.size≤W9.heap.size:=I5.size;have HM3:=Zh hm3;clear BA F1 Sd hm3 n1 n2 n3 n5 Tg hR7 hX7 hD7 k4 k5 sx IX hR8 pR vq I5 AY M4 hK9 hR9 y1 x1 y2 x2 y3 x3 y5 x5;go_wp2;go_loopg [31] c.Aa.length (fun g i wr=>∃(k:Nat) (cur:Array Zc),k≤c.Aa.length∧g=c.Aa.length - k∧i=.int .i64 k∧CW S w W3.heap.size q cap (.slice p1 c.base.length d1) (.slice p2 c.Ag.length d2) (.slice p3 c.hooks.length d3) (.slice p5 c.now.length d5) c k cur wr)
 case atStart=>exact⟨0,cur,Zt _,rfl,rfl,hC0⟩
 case round=>
  obtain⟨k,cur,hk,rfl,rfl,hC⟩:=hrel;by_cases Az:k<c.Aa.length
  ·obtain⟨v2,v3,e0,e1,e2,e3,e4,hy⟩:=hC.at_ k Az
   obtain⟨_,hp,ho⟩:=hy.resolve_left (fun z=>absurd z.1 (by omega));obtain⟨Me,QA⟩:=vu k Az;obtain⟨a6,c6,rfl,l6,m6⟩:=hp.val;obtain⟨a7,c7,rfl,l7,m7⟩:=ho.val;have r0:=ch hC.arr e0;have r1:=ch hC.arr e1;have r2:=ch hC.arr e2;have r3:=ch hC.arr e3;have r4:=ch hC.arr e4;obtain⟨sm,Nz⟩:∃sm,sm=Aj c.Aa k:=⟨_,rfl⟩;rw[←Nz]at r0 r1 r2 r3 r4 hp ho Me QA l6 l7;have HSM:=Zh Nz;clear Nz e0 e1 e4;obtain⟨low,high,Ak,over,left⟩:=sm;dsimp only at r0 r1 r2 r3 r4 hp ho Me QA l6 l7;have Tb:(k:Int)<(c.Aa.length:Int):=by omega
   go_wp2;obtain⟨n6,sA⟩:∃n6,n6=wr.alloc (.cells #[.int .i64 low,.int .i64 high,.slice a6 Ak.length c6,.slice a7 over.length c7,.int .i64 left] 62):=⟨_,rfl⟩;have afx:Zm wr.heap.size wr n6:=by rw[sA];exact(Zi _ _).alloc (Zj _) _
   have yX:n6.heap[wr.heap.size]?=some (.cells #[.int .i64 low,.int .i64 high,.slice a6 Ak.length c6,.slice a7 over.length c7,.int .i64 left] 62 (0,0)):=by rw[sA];exact Bv _ _
   rw[←sA];clear sA;have hC1:=hC.later afx;have jv:q<wr.heap.size:=(Za.1 hC.arr).1;have Th:q<n6.heap.size:=(Za.1 hC1.arr).1;have hi1:(0:Int)≤(k:Int):=by omega
   have z0:=fun p=>B_ (q:=q) p (ch (i:=3) hC1.box (v:=.slice (some ⟨q,0,none⟩) c.Aa.length cap) rfl) (by simp;omega);have z1:=fun p=>B_ (q:=q) p (ch (i:=2) yX (v:=.slice a6 Ak.length c6) rfl) (by simp;omega);have z2:=fun p=>B_ (q:=q) p (ch (i:=3) yX (v:=.slice a7 over.length c7) rfl) (by simp;omega);refine C5 (S:=fun W=>∃p,W=R6 n6 q p) [] [(false,8),(false,11),(false,12),(false,13),(false,14),(false,15),(false,16),(false,17)] [0,1,2,3,4,5,6,7,9,10] (by kernel_rfl) (fun _ _ d _ _ h=>by cases d<;>exact h) (by kernel_rfl) (BG ((Cf.refl _ _).below (Zi _ _).drew) Th) ?_;refine Bf _ _ (by kernel_rfl) ?_;simp only[zQ,zW,ZY,ZO,ZN]
   repeat (first|go_big_quiet_step (fail)|quiet_step (fail))
   refine Ye ?_;clear z0 z1 z2;change DR _ _ _ _ _ _ _;have Ot:=hC1.below;have jy:Cf q n6 n6.drew:=(Cf.refl _ _).below (Zi _ _).drew;refine Ee (f:=168) (args:= #[.slice a6 Ak.length c6]) rfl rfl (by go_simp) ((alG (hp.later Ot.drew) Me).mono ?_);rintro e W11 ⟨x2,rfl,Ti,pS⟩;have yY:=jy.below Ti;refine⟨x2,rfl,.inr (BG yY Th),?_⟩;have fX:=Ot.drew.trans (Ti.mono Ot.drew.size);refine Ee (f:=106) (args:= #[.slice a7 over.length c7]) rfl rfl (by go_simp) ((jk (ho.later fX) QA).mono ?_);rintro e VJ ⟨x3,rfl,aA,bu⟩;have aB:=yY.below aA;refine⟨x3,rfl,.inr (BG aB Th),?_⟩;have aC:=hC1.later (((Zi _ _).drew.trans (Ti.mono (Zj _))).trans (aA.mono Ti.size));have atE:=(Za.1 aC.arr).1;have pS:SP (Cy n6.drew.heap.size W11) W11 x2 Ak:=pS;have bu:SI (Cy W11.heap.size VJ) VJ x3 over:=bu;obtain⟨b2,t2,rfl,y2,w2⟩:=pS.val;obtain⟨b3,t3,rfl,y3,w3⟩:=bu.val;have f2:=cf (i:=k*5+2) aC.arr;have f3:=cf (i:=k*5+3) aC.arr;have r2':=ch aC.arr e2;have r3':=ch aC.arr e3;refine E7 (v:=.pointer (some ⟨q,k*5,none⟩)) rfl rfl (by go_simp) (.inr (BG aB Th)) ?_;refine E7 (v:=.pointer (some ⟨q,k*5+2,none⟩)) rfl rfl (by go_simp) (.inr (BG aB Th)) ?_;refine Ky (w':=VJ.setCell ⟨q,k*5+2,none⟩ (.slice b2 Ak.length t2)) rfl rfl (by go_simp) (.inr (BG aB.set Th)) ?_;refine E7 (v:=.pointer (some ⟨q,k*5,none⟩)) rfl rfl (by go_simp) (.inr (BG aB.set Th)) ?_;refine E7 (v:=.pointer (some ⟨q,k*5+3,none⟩)) rfl rfl (by go_simp) (.inr (BG aB.set Th)) ?_;refine Ky (w':=(VJ.setCell ⟨q,k*5+2,none⟩ (.slice b2 Ak.length t2)).setCell ⟨q,k*5+3,none⟩ (.slice b3 over.length t3)) rfl rfl (by go_simp) (.inr (BG aB.set.set Th)) ?_;have alV:∀b,Cy n6.drew.heap.size VJ b→NB q VJ b:=fun b hb=>⟨Zl Th hb.1,hb.2⟩;have atH:n6.heap.size≤W11.heap.size:=Ti.size;have alW:∀b,Cy W11.heap.size VJ b→NB q VJ b:=fun b hb=>⟨by have:=hb.1;omega,hb.2⟩;have hV:Cf q VJ ((VJ.setCell ⟨q,k*5+2,none⟩ (.slice b2 Ak.length t2)).setCell ⟨q,k*5+3,none⟩ (.slice b3 over.length t3)):=(Cf.refl _ _).set.set;have hsV:CC (NB q VJ) VJ ((VJ.setCell ⟨q,k*5+2,none⟩ (.slice b2 Ak.length t2)).setCell ⟨q,k*5+3,none⟩ (.slice b3 over.length t3)):=hV.same (fun b hb e=>by have:=hb.1;omega);have i2:SP (NB q VJ) VJ (.slice b2 Ak.length t2) Ak:=(pS.later aA).imp (fun b hb=>alV b (hb.mono aA.size (Zj _))) (fun _ _ x=>x);have i3:SI (NB q VJ) VJ (.slice b3 over.length t3) over:=bu.imp alW (fun _ _ x=>x);have j2:=Sl.imp (i2.Au hsV) (fun b (hb:NB q VJ b)=>NB.mono hV.size hb) (fun _ _ x=>x);have j3:=Sl.imp (i3.Au hsV) (fun b (hb:NB q VJ b)=>NB.mono hV.size hb) (fun _ _ x=>x);have hC3:=aC.next (v2':=.slice b2 Ak.length t2) (v3':=.slice b3 over.length t3) Az hV nY (A5 (A5 aC.arr _) _)
    (by rw[←HSM.out];exact j2) (by rw[←HSM.out];exact j3)
   have HC3:=Zh hC3;clear j2 j3 i2 i3 hC3 aC hC1 hC hsV hV Ti aA jy yY aB pS bu Ot fX yX afx r0 r1 r2 r3 r4 r2' r3' f2 f3 e2 e3 hp ho;unfold DR
   go_simp
   go_wp2;go_roundg (c.Aa.length - (k+1))
   case rel=>exact⟨k+1,_,by omega,rfl,by go_num,HC3.out⟩
   case measure=>omega
  ·have Wk:k=c.Aa.length:=by omega
   subst Wk;have yZ:=zb (hC.cd I7 hq4 (by omega)) hC.now;have KC:=hC.below;have s0:=ch (i:=0) hC.box (v:=.slice p1 c.base.length d1) rfl;have s1:=ch (i:=1) hC.box (v:=.slice p2 c.Ag.length d2) rfl;have s2:=ch (i:=2) hC.box (v:=.slice p3 c.hooks.length d3) rfl;have s3:=ch (i:=3) hC.box (v:=.slice (some ⟨q,0,none⟩) c.Aa.length cap) rfl;have s4:=ch (i:=4) hC.box (v:=.slice p5 c.now.length d5) rfl;have f0:=cf (i:=0) hC.res;have f1:=cf (i:=1) hC.res;have f2:=cf (i:=2) hC.res;have f3:=cf (i:=3) hC.res;have f4:=cf (i:=4) hC.res;have r0:=ch (i:=0) hC.res (v:=.slice none 0 0) rfl;have r1:=ch (i:=1) hC.res (v:=.slice none 0 0) rfl;have r2:=ch (i:=2) hC.res (v:=.slice none 0 0) rfl;have r3:=ch (i:=3) hC.res (v:=.slice none 0 0) rfl;have r4:=ch (i:=4) hC.res (v:=.slice none 0 0) rfl;have HRC:=Zh yZ;clear yZ hC;go_wp2;refine ZX (v:=.agg #[.slice p1 c.base.length d1,.slice p2 c.Ag.length d2,.slice p3 c.hooks.length d3,.slice (some ⟨q,0,none⟩) c.Aa.length cap,.slice p5 c.now.length d5]) (by rw[A3 rfl];go_simp) rfl ?_;have hV:Cf (w.heap.size+1) wr (((((wr.setCell ⟨w.heap.size+1,0,none⟩ (.slice p1 c.base.length d1)).setCell ⟨w.heap.size+1,1,none⟩ (.slice p2 c.Ag.length d2)).setCell ⟨w.heap.size+1,2,none⟩ (.slice p3 c.hooks.length d3)).setCell ⟨w.heap.size+1,3,none⟩ (.slice (some ⟨q,0,none⟩) c.Aa.length cap)).setCell ⟨w.heap.size+1,4,none⟩ (.slice p5 c.now.length d5)):=((((Cf.refl _ _).set.set).set).set).set;exact⟨W3.heap.size,q,wr.heap.size,cap,_,_,_,_,_,rfl,bS (bS (bS (bS (bS KC (by omega)) (by omega)) (by omega)) (by omega)) (by omega),by omega,HRC.out.1.Au hV (.inl (by have:=HM3.out;omega)),HRC.out.2.Au (hV.same (fun x hx e=>by have:=hx.1;have:=HM3.out;omega))⟩
def JY (s:List Ax)(i:Nat):List Ax:=s.modify i fun x=> {x with left:=x.left - 1}
def Cz:List Ax→List Int→List Ax
 |s,[]=>s
 |s,i::r=>Cz (JY s i.toNat) r
def Ft (c:Aw)(l:List Int)(t:Nat):Aw:= {c with now:=l,Aa:=Cz c.Aa (AB t)}
theorem Gh (s:List Ax)(i:Nat):(JY s i).length=s.length:=by simp[JY]
theorem Oy:∀(l:List Int) (s:List Ax),(Cz s l).length=s.length
 | [],_=>rfl
 |_::r,s=>(Oy r _).trans (Gh s _)
theorem K6 {s:List Ax}{i:Nat}(hi:i<s.length)(j:Nat):Aj (JY s i) j=if j=i then {Aj s i with left:=(Aj s i).left - 1} else Aj s j:=by
 unfold Aj JY;by_cases h:j=i
 ·subst h
  simp[zP,hi]
 ·simp[zP,h,Ne.symm h]
theorem dE {l:List Int}{s:List Ax}{k:Nat}(h:k<l.length):Cz s (l.drop k)=Cz (JY s (nth l k).toNat) (l.drop (k+1)):=by
 obtain⟨hk,e⟩:=Zo.1 (Bo h);rw[Z4 hk,e]
 rfl
theorem CD.now {wr:Zb}{m q r cap:Nat}{u1 u2 u3:Zc}{c:Aw}{cur:Array Zc}(h:CD wr m q r cap u1 u2 u3 c cur)(l:List Int):CD wr m q r cap u1 u2 u3 {c with now:=l} cur:=
 ⟨h.base,h.Ag,h.hooks,h.arr,h.at_,h.nW,h.nX,h.mq,h.qr,h.rw_⟩
theorem CD.dec {wr W:Zb}{m q r cap i:Nat}{u1 u2 u3:Zc}{c:Aw}{cur:Array Zc}(h:CD wr m q r cap u1 u2 u3 c cur)(hi:i<c.Aa.length)(hB:Cf q wr W)(ha:W.heap[q]?=some (.cells (cur.setIfInBounds (i*5+4) (.int .i64 ((Aj c.Aa i).left - 1))) 62 (0,0))):
  CD W m q r cap u1 u2 u3 {c with Aa:=JY c.Aa i} (cur.setIfInBounds (i*5+4) (.int .i64 ((Aj c.Aa i).left - 1))):=by
 have nY:=h.mq;have jv:=h.qr;have hA:CC (NA m q) wr W:=hB.same (fun x hx e=>by have:=hx.1;have:=hx.2;omega);have hN:CC (NR q r) wr W:=hB.same (fun x hx e=>by have:=hx.1;have:=hx.2;omega);refine⟨h.base.Au hA,h.Ag.Au hA,h.hooks.Au hA,ha,fun j hj=>?_,by rw[Gh];exact h.nW,h.nX,h.mq,h.qr,Zx h.rw_ hB.size⟩;rw[Gh]at hj;obtain⟨v2,v3,e0,e1,e2,e3,e4,x2,x3⟩:=h.at_ j hj;have z4:=(Za.1 e4).1;simp only[K6 hi];by_cases Lc:j=i
 ·subst Lc
  rw[if_pos rfl];refine⟨v2,v3,?_,?_,?_,?_,?_,x2.Au hN,x3.Au hN⟩
  ·rw[Zk (by omega)];exact e0
  ·rw[Zk (by omega)];exact e1
  ·rw[Zk (by omega)];exact e2
  ·rw[Zk (by omega)];exact e3
  ·rw[Z9 z4]
 ·rw[if_neg Lc]
  refine⟨v2,v3,?_,?_,?_,?_,?_,x2.Au hN,x3.Au hN⟩
  ·rw[Zk (by omega)];exact e0
  ·rw[Zk (by omega)];exact e1
  ·rw[Zk (by omega)];exact e2
  ·rw[Zk (by omega)];exact e3
  ·rw[Zk (by omega)];exact e4
theorem JL (w:Zb)(o1 o2:Obj):((w.alloc o1).alloc o2).heap[w.heap.size+1]?=some o2:=by
 have:=Bv (w.alloc o1) o2;rwa[ZG]at this
theorem afA {T:Nat→Prop}{w W:Zb}{q i:Nat}{v:Zc}(h:CC T w W)(hq:∀b,T b→b≠q):CC T w (W.setCell ⟨q,i,none⟩ v):=fun b hb hl=>(AW (hq b hb) _).trans (h b hb hl)
def afB (w:Zb)(s0 s1 s2:Nat)(c:Aw)(e:Ending)(w':Zb):Prop:=∃(u1 u2 u3 u4 u5:Zc),e=.returned (.agg #[u1,u2,u3,u4,u5,.int .u8 s0,.int .u8 s1,.int .u8 s2])∧Zm w.heap.size w w'∧RC (Cy w.heap.size w') w' u1 u2 u3 u4 u5 c
structure WW (w:Zb)(m q r cap b7:Nat)(u1 u2 u3 u5:Zc)(g:Array Zc)(c:Aw)(l:List Int)(Aa:List Ax)(cur:Array Zc)(wr:Zb):Prop where
 below:Zm w.heap.size w wr
 D7:wr.heap[w.heap.size]?=some (.cells g 112 (0,0))
 res:wr.heap[w.heap.size+1]?=some (.cells #[.slice none 0 0,.slice none 0 0,.slice none 0 0,.slice none 0 0,.slice none 0 0,.int .u8 0,.int .u8 0,.int .u8 0] 112 (0,0))
 box:wr.heap[b7]?=some (.cells #[u1,u2,u3,.slice (some ⟨q,0,none⟩) Aa.length cap,u5] 26 (0,0))
 cd:CD wr m q r cap u1 u2 u3 {c with Aa:=Aa} cur
 now:SI (fun b=>b7<b∧b<wr.heap.size) wr u5 l
theorem WW.later {w wr W:Zb}{m q r cap b7:Nat}{u1 u2 u3 u5:Zc}{g:Array Zc}{c:Aw}{l:List Int}{Aa:List Ax}{cur:Array Zc}(h:WW w m q r cap b7 u1 u2 u3 u5 g c l Aa cur wr)(hB:Zm wr.heap.size wr W):WW w m q r cap b7 u1 u2 u3 u5 g c l Aa cur W:=
 ⟨h.below.trans (hB.mono h.below.size),(hB.block _ (Za.1 h.D7).1).trans h.D7,(hB.block _ (Za.1 h.res).1).trans h.res,(hB.block _ (Za.1 h.box).1).trans h.box,h.cd.later hB,
  Sl.imp (h.now.later hB) (fun b (hb:b7<b∧b<wr.heap.size)=>⟨hb.1,Zl hb.2 hB.size⟩) (fun _ _ x=>x)⟩
theorem WW.dec {w wr:Zb}{m q r cap b7 i:Nat}{u1 u2 u3 u5:Zc}{g:Array Zc}{c:Aw}{l:List Int}{Aa:List Ax}{cur:Array Zc}(h:WW w m q r cap b7 u1 u2 u3 u5 g c l Aa cur wr)(hi:i<Aa.length)(hq:w.heap.size+1<q)(y8:q<b7):
  WW w m q r cap b7 u1 u2 u3 u5 g c l (JY Aa i) (cur.setIfInBounds (i*5+4) (.int .i64 ((Aj Aa i).left - 1))) (wr.setCell ⟨q,i*5+4,none⟩ (.int .i64 ((Aj Aa i).left - 1))):=by
 have hU:Cf q wr (wr.setCell ⟨q,i*5+4,none⟩ (.int .i64 ((Aj Aa i).left - 1))):=(Cf.refl _ _).set;refine⟨bS h.below (by omega),(AW (by omega) _).trans h.D7,(AW (by omega) _).trans h.res,by rw[Gh];exact(AW (by omega) _).trans h.box,h.cd.dec hi hU (A5 h.cd.arr _),?_⟩;exact Sl.imp (h.now.Au (hU.same (fun b hb e=>by have:=hb.1;omega))) (fun b (hb:b7<b∧b<wr.heap.size)=>⟨hb.1,Zl hb.2 hU.size⟩) (fun _ _ x=>x)
theorem c92 {S:Nat→Prop}{w:Zb}{v1 v2 v3 v4 v5 v6:Zc}{c:Aw}{l:List Int}{t:Nat}(h:RC S w v1 v2 v3 v4 v5 c)(hl:SI S w v6 l)(hS:∀b,S b→b<w.heap.size)(ht:t<8)(hx:∀x,x∈AB t→0≤x∧x<c.Aa.length)
  (eo:∀i,i<c.Aa.length→-4≤(Aj c.Aa i).left∧(Aj c.Aa i).left≤4) (fO:c.base.length≤1000) (hle:c.Ag.length≤1000) (yV:c.hooks.length≤1000) (Wj:c.Aa.length≤1000) (Ff:0<c.Aa.length) (Vi:c.now.length≤1000)
  (vu:∀i,i<c.Aa.length→(Aj c.Aa i).Ak.length≤1000∧(Aj c.Aa i).over.length≤1000) (V9:l.length≤1000) (s0 s1 s2:Nat):
  Calls Lp 92 #[.agg #[v1,v2,v3,v4,v5,.int .u8 s0,.int .u8 s1,.int .u8 s2],v6,.int .u8 t] w (afB w s0 s1 s2 (Ft c l t)):=by
 obtain⟨a1,c1,rfl,l1,m1⟩:=h.base.val;obtain⟨a2,c2,rfl,l2,m2⟩:=h.Ag.val;obtain⟨a3,c3,rfl,l3,m3⟩:=h.hooks.val;obtain⟨a4,c4,rfl,l4,m4⟩:=h.Aa.val;obtain⟨a5,c5,rfl,l5,m5⟩:=h.now.val;obtain⟨a6,c6,rfl,l6,m6⟩:=hl.val;have I3:=DN;have Bw:Zm w.heap.size w ((w.alloc (.cells #[.slice a1 c.base.length c1,.slice a2 c.Ag.length c2,.slice a3 c.hooks.length c3,.slice a4 c.Aa.length c4,.slice a5 c.now.length c5,.int .u8 s0,.int .u8 s1,.int .u8 s2] 112)).alloc (.cells #[.slice none 0 0,.slice none 0 0,.slice none 0 0,.slice none 0 0,.slice none 0 0,.int .u8 0,.int .u8 0,.int .u8 0] 112)):=bA (bA (Zi _ _));have alY:=Zh (fun W hB=>alR (w:=W) (h.later hB) (A8 hS hB) fO hle yV Wj Ff Vi vu s0 s1 s2);have alZ:=Zh (fun W hB=>jk (w:=W) (hl.later hB) V9);go_enter Lp.func92,n92;go_wp2_with (go_at_call 150;refine(alY.out _ Bw).mono ?_;rintro e w1 ⟨m,q,r,cap,u1,u2,u3,u5,cur,rfl,Bh,hm,hC,pQ⟩;obtain⟨p1,d1,rfl,_⟩:=hC.base.val;obtain⟨p2,d2,rfl,_⟩:=hC.Ag.val;obtain⟨p3,d3,rfl,_⟩:=hC.hooks.val;obtain⟨p5,d5,rfl,_⟩:=pQ.val;have BA:=Bw.trans (Bh.mono Bw.size));have jz:=(Bh.block w.heap.size (by simp;omega)).trans (Bm (Bv w (.cells #[.slice a1 c.base.length c1,.slice a2 c.Ag.length c2,.slice a3 c.hooks.length c3,.slice a4 c.Aa.length c4,.slice a5 c.now.length c5,.int .u8 s0,.int .u8 s1,.int .u8 s2] 112)) _);have hR1:=(Bh.block (w.heap.size+1) (by simp)).trans (JL w _ _);obtain⟨W2,QB⟩:∃W2,W2=w1.alloc (.cells #[.slice p1 c.base.length d1,.slice p2 c.Ag.length d2,.slice p3 c.hooks.length d3,.slice (some ⟨q,0,none⟩) c.Aa.length cap,.slice p5 c.now.length d5] 26):=⟨_,rfl⟩;have LB:Zm w1.heap.size w1 W2:=by rw[QB];exact(Zi _ _).alloc (Zj _) _
 have hN2:W2.heap[w1.heap.size]?=some (.cells #[.slice p1 c.base.length d1,.slice p2 c.Ag.length d2,.slice p3 c.hooks.length d3,.slice (some ⟨q,0,none⟩) c.Aa.length cap,.slice p5 c.now.length d5] 26 (0,0)):=by rw[QB];exact Bv _ _
 rw[←QB];clear QB;have afC:=BA.trans (LB.mono BA.size);refine(alZ.out _ afC).mono ?_;rintro e w3 ⟨v,rfl,Dz,Wb⟩;have hv:SI (Cy W2.heap.size w3) w3 v l:=Wb;obtain⟨p6,d6,rfl,_⟩:=hv.val;have kG:=LB.trans (Dz.mono LB.size);have hbW:w1.heap.size<W2.heap.size:=(Za.1 hN2).1;have vv:=(Dz.block _ hbW).trans hN2;have n4:=ch (i:=4) vv (v:=.slice p5 c.now.length d5) rfl;have k4:=cf (i:=4) vv;have jA:=hC.rw_;have jv:=hC.qr;have nY:=hC.mq;have hmw:w.heap.size+1<m:=by simp at hm;omega
 have xm:w.heap.size<w1.heap.size:=(Za.1 jz).1;obtain⟨W4,Et⟩:∃W4,W4=w3.setCell ⟨w1.heap.size,4,none⟩ (.slice p6 l.length d6):=⟨_,rfl⟩;have Tj:Cf w1.heap.size w3 W4:=by rw[Et];exact(Cf.refl _ _).set
 have PK:W4.heap[w1.heap.size]?=some (.cells #[.slice p1 c.base.length d1,.slice p2 c.Ag.length d2,.slice p3 c.hooks.length d3,.slice (some ⟨q,0,none⟩) c.Aa.length cap,.slice p6 l.length d6] 26 (0,0)):=by rw[Et];exact A5 vv _
 have VK:Zm w.heap.size w W4:=by rw[Et];exact bS (BA.trans (kG.mono BA.size)) (by omega)
 have hW0:WW w m q r cap w1.heap.size (.slice p1 c.base.length d1) (.slice p2 c.Ag.length d2) (.slice p3 c.hooks.length d3) (.slice p6 l.length d6) #[.slice a1 c.base.length c1,.slice a2 c.Ag.length c2,.slice a3 c.hooks.length c3,.slice a4 c.Aa.length c4,.slice a5 c.now.length c5,.int .u8 s0,.int .u8 s1,.int .u8 s2] c l c.Aa cur W4:= {
  below:=VK
  D7:=(Tj.block _ (Zl xm kG.size) (by omega)).trans ((kG.block _ xm).trans jz)
  res:=(Tj.block _ (Zl (Za.1 hR1).1 kG.size) (by omega)).trans ((kG.block _ (Za.1 hR1).1).trans hR1)
  box:=PK
  cd:=(hC.later kG).Au Tj (.inr jA)
  now:=Sl.imp (hv.Au (Tj.same (fun b hb e=>by have:=hb.1;omega))) (fun b (hb:Cy W2.heap.size w3 b)=>⟨Zl hbW hb.1,Zl hb.2 Tj.size⟩) (fun _ _ x=>x)}
 have HW0:=Zh hW0;have atJ:(AB t).length≤3:=IY t 3;clear hW0 Tj PK VK hC pQ Bh LB hN2 afC Dz hv Wb kG vv jz hR1 Bw BA;go_wp2_with (fail);rw[←Et];clear Et n4 k4;refine(yO ht).mono ?_;rintro e w5 ⟨v7,rfl,Ck,hv7,_⟩;obtain⟨p7,d7,rfl,l7,m7⟩:=hv7.val;have I6:WW w m q r cap w1.heap.size (.slice p1 c.base.length d1) (.slice p2 c.Ag.length d2) (.slice p3 c.hooks.length d3) (.slice p6 l.length d6) #[.slice a1 c.base.length c1,.slice a2 c.Ag.length c2,.slice a3 c.hooks.length c3,.slice a4 c.Aa.length c4,.slice a5 c.now.length c5,.int .u8 s0,.int .u8 s1,.int .u8 s2] c l c.Aa cur w5:=HW0.out.later Ck;have HX:=Zh hx;have pT:=Ck.size;have hbz:w1.heap.size<W4.heap.size:=(Za.1 HW0.out.box).1;clear HW0 Ck;dsimp only;go_wp2;go_loopg [18] (AB t).length (fun g i wr=>∃(k:Nat) (sm:List Ax) (cur:Array Zc),k≤(AB t).length∧g=(AB t).length - k∧i=.int .i64 k∧sm.length=c.Aa.length∧Cz sm ((AB t).drop k)=Cz c.Aa (AB t)∧(∀i,i<c.Aa.length→-4 - (k:Int)≤(Aj sm i).left∧(Aj sm i).left≤4)∧Cf q w5 wr∧
  WW w m q r cap w1.heap.size (.slice p1 c.base.length d1) (.slice p2 c.Ag.length d2) (.slice p3 c.hooks.length d3) (.slice p6 l.length d6) #[.slice a1 c.base.length c1,.slice a2 c.Ag.length c2,.slice a3 c.hooks.length c3,.slice a4 c.Aa.length c4,.slice a5 c.now.length c5,.int .u8 s0,.int .u8 s1,.int .u8 s2] c l sm cur wr)
 case atStart=>exact⟨0,c.Aa,cur,Zt _,rfl,rfl,rfl,rfl,fun i hi=>by have:=eo i hi;omega,Cf.refl _ _,I6⟩
 case round=>
  obtain⟨k,sm,cur,hk,rfl,rfl,afD,CO,vw,hU,hW⟩:=hrel;have hf:=Zh CO;have fY:=Zh afD;clear CO afD;by_cases Az:k<(AB t).length
  ·obtain⟨b,o,rfl,hb,hc⟩:=hv7.at_ Az
   have NT:=CC.cell (hU.same (T:=fun b=>b≠q) (fun _ h=>h)) (p:=⟨b,o+k,none⟩) (by have:=hb.1;simp;omega) hc;clear hc;obtain⟨Og,T5⟩:=HX.out _ (Qx Az);have OZ:=Zh (dE (s:=sm) Az);obtain⟨x,km⟩:∃x:Nat,nth (AB t) k=x:=⟨(nth (AB t) k).toNat,by omega⟩;rw[km]at NT Og T5 OZ;clear km;have jm:x<c.Aa.length:=by omega
   have hxs:x<sm.length:=by rw[fY.out];exact jm
   have hxi:(x:Int)<(sm.length:Int):=by omega
   obtain⟨y2,y3,_,_,_,_,e4,_,_⟩:=hW.cd.at_ x hxs;obtain⟨vl,Lf⟩:=vw x jm;have HLF:=Zh vw;have HD:=Zh (hW.dec hxs (by omega) (by omega));have HU:=Zh (hU.set (i:=x*5+4) (v:=.int .i64 ((Aj sm x).left - 1)));have r4:=ch hW.cd.arr e4;have f4:=cf (i:=x*5+4) hW.cd.arr;have b3:=ch (i:=3) hW.box (v:=.slice (some ⟨q,0,none⟩) sm.length cap) rfl;clear hW hU vw e4;obtain⟨lf,vw⟩:∃lf,lf=(Aj sm x).left:=⟨_,rfl⟩;dsimp only at r4;rw[←vw]at r4 vl Lf HD HU;have HLE:=Zh vw;clear vw;go_wp2;go_roundg ((AB t).length - (k+1))
   case rel=>exact⟨k+1,JY sm x,_,by omega,rfl,by go_num,by rw[Gh];exact fY.out,by rw[←hf.out,OZ.out];rfl,fun i hi=>by
    have:=HLF.out i hi;rw[K6 hxs];split
    ·have:=HLF.out x jm
     show -4 - ((k+1:Nat):Int)≤(Aj sm x).left - 1∧(Aj sm x).left - 1≤4;omega
    ·omega,HU.out,HD.out⟩
   case measure=>omega
  ·have hks:sm=Cz c.Aa (AB t):=by rw[←hf.out,zf.2 (by omega)];rfl
   have HK:=Zh hks;clear hks hf;have e1:w.heap.size+1<w1.heap.size:=by omega
   have HRC:=Zh ((hW.cd.now l).rc (T:=fun b=>w.heap.size+1<b∧b<wr.heap.size) (u5:=.slice p6 l.length d6) (h5:=Sl.imp hW.now (fun b (hb:w1.heap.size<b∧b<wr.heap.size)=>⟨Nat.lt_trans e1 hb.1,hb.2⟩) (fun _ _ x=>x)) (fun b h1 h2=>⟨Zl hmw h1,Zl h2 hW.cd.rw_⟩));have HW:=Zh hW.below;have t0:=ch (i:=0) hW.box (v:=.slice p1 c.base.length d1) rfl;have t1:=ch (i:=1) hW.box (v:=.slice p2 c.Ag.length d2) rfl;have t2:=ch (i:=2) hW.box (v:=.slice p3 c.hooks.length d3) rfl;have t3:=ch (i:=3) hW.box (v:=.slice (some ⟨q,0,none⟩) sm.length cap) rfl;have t4:=ch (i:=4) hW.box (v:=.slice p6 l.length d6) rfl;have g0:=ch (i:=0) hW.D7 (v:=.slice a1 c.base.length c1) rfl;have g1:=ch (i:=1) hW.D7 (v:=.slice a2 c.Ag.length c2) rfl;have g2:=ch (i:=2) hW.D7 (v:=.slice a3 c.hooks.length c3) rfl;have g3:=ch (i:=3) hW.D7 (v:=.slice a4 c.Aa.length c4) rfl;have g4:=ch (i:=4) hW.D7 (v:=.slice a5 c.now.length c5) rfl;have g5:=ch (i:=5) hW.D7 (v:=.int .u8 s0) rfl;have g6:=ch (i:=6) hW.D7 (v:=.int .u8 s1) rfl;have g7:=ch (i:=7) hW.D7 (v:=.int .u8 s2) rfl;have h0:=cf (i:=0) hW.D7;have h1:=cf (i:=1) hW.D7;have h2:=cf (i:=2) hW.D7;have h3:=cf (i:=3) hW.D7;have h4:=cf (i:=4) hW.D7;have f0:=cf (i:=0) hW.res;have f1:=cf (i:=1) hW.res;have f2:=cf (i:=2) hW.res;have f3:=cf (i:=3) hW.res;have f4:=cf (i:=4) hW.res;have f5:=cf (i:=5) hW.res;have f6:=cf (i:=6) hW.res;have f7:=cf (i:=7) hW.res;have r0:=ch (i:=0) hW.res (v:=.slice none 0 0) rfl;have r1:=ch (i:=1) hW.res (v:=.slice none 0 0) rfl;have r2:=ch (i:=2) hW.res (v:=.slice none 0 0) rfl;have r3:=ch (i:=3) hW.res (v:=.slice none 0 0) rfl;have r4:=ch (i:=4) hW.res (v:=.slice none 0 0) rfl;have r5:=ch (i:=5) hW.res (v:=.int .u8 0) rfl;have r6:=ch (i:=6) hW.res (v:=.int .u8 0) rfl;have r7:=ch (i:=7) hW.res (v:=.int .u8 0) rfl;clear hW hU vw;go_wp2;refine ZX (v:=.agg #[.slice p1 c.base.length d1,.slice p2 c.Ag.length d2,.slice p3 c.hooks.length d3,.slice (some ⟨q,0,none⟩) sm.length cap,.slice p6 l.length d6,.int .u8 s0,.int .u8 s1,.int .u8 s2]) (by rw[A3 rfl];go_simp) rfl ?_;have hwc:Ft c l t= { {c with Aa:=sm} with now:=l}:=by rw[HK.out];rfl
   refine⟨_,_,_,_,_,rfl,?_,?_⟩
   ·have KC:=HW.out
    repeat (with_reducible first|exact KC|(refine bS ?_ (by omega)))
   ·rw[hwc]
    refine(HRC.out.Au ?_).imp (fun b hb=>⟨by have:=hb.1;omega,?_⟩)
    ·repeat (with_reducible first|exact CC.refl _ _|(refine afA ?_ (fun b hb e=>by have:=hb.1;omega)))
    ·simpa using hb.2
def IZ (w:Zb):Prop:=w.cell? ⟨0,0,none⟩=some (.iface 220 (.agg #[.pointer (some ⟨1,117,none⟩)]))
theorem IZ.pos {w:Zb}(h:IZ w):0<w.heap.size:=ZH w _ h
theorem IZ.later {w W:Zb}(h:IZ w)(hB:Zm w.heap.size w W):IZ W:=(hB.cell (p:=⟨0,0,none⟩) h.pos).trans h
def Two (w:Zb)(v:Zc)(e:Ending)(w':Zb):Prop:=Zm w.heap.size w w'∧(e=.returned v∨∃x,e=.panicked x∧PX x w')
theorem am2 {w:Zb}{t:Nat}{m:Int}(ht:w.heap[t]?=some (.cells #[.int .i64 m] 121 (0,0)))(hG:IZ w):Calls Lp 91 #[.nilIface,.iface 123 (.pointer (some ⟨t,0,none⟩))] w (Two w (.bool false)):=by
 cases h1:(((zu 1 0 3).cut (w.tape w.drawn (.appendCap 1 0 3)):Int)==1) with
 |true=>exact(Oi _ _ _ h1).mono fun e w' ⟨he,hB⟩=>⟨hB,.inr ⟨_,he,.inr ⟨_,_,_,_,rfl,.inl rfl,t,m,rfl,(Za.1 ht).1,(hB.block _ (Za.1 ht).1).trans ht,hG.pos,hG.later hB⟩⟩⟩
 |false=>exact(eZ _ _ h1).mono fun e w' ⟨he,hB⟩=>⟨hB,.inl he⟩
def As (w:Zb)(t:Nat)(n:Int)(e:Ending)(w':Zb):Prop:=(e=.returned (.bool true)∧Zm w.heap.size (w.setCell ⟨t,0,none⟩ (.int .i64 n)) w')∨(Zm w.heap.size w w'∧∃x,e=.panicked x∧PX x w')
theorem am3 {w:Zb}{t:Nat}{m n:Int}(ht:w.heap[t]?=some (.cells #[.int .i64 m] 121 (0,0)))(hG:IZ w):Calls Lp 91 #[.iface 121 (.agg #[.int .i64 n]),.iface 123 (.pointer (some ⟨t,0,none⟩))] w (As w t n):=by
 cases h1:(((zu 1 0 3).cut (w.tape w.drawn (.appendCap 1 0 3)):Int)==1) with
 |true=>exact(Oi _ _ _ h1).mono fun e w' ⟨he,hB⟩=>.inr ⟨hB,_,he,.inr ⟨_,_,_,_,rfl,.inr ⟨n,rfl⟩,t,m,rfl,(Za.1 ht).1,(hB.block _ (Za.1 ht).1).trans ht,hG.pos,hG.later hB⟩⟩
 |false=>exact(fh n m t w h1 ht).mono fun e w' ⟨he,hB⟩=>.inl ⟨he,hB⟩
def Rl (S:Nat→Prop)(w:Zb)(cs:List Zc)(x:List Int):Prop:=∃u,cs=[u]∧SI S w u x
abbrev SL (S:Nat→Prop):=Sl S (Rl S) 1
theorem SL.Au {S:Nat→Prop}{w w':Zb}{v:Zc}{l:List (List Int)}(h:SL S w v l)(hw:CC S w w'):SL S w' v l:=Sl.Au h hw fun _ _ ⟨u,e,hu⟩=>⟨u,e,hu.Au hw⟩
def CF (l:List (List Int))(i:Nat):List Int:=l.getD i []
theorem DD {l:List (List Int)}{i:Nat}(h:i<l.length):l[i]?=some (CF l i):=by simp[CF,h]
theorem SL.at_ {S:Nat→Prop}{w:Zb}{a:Option Addr}{c:Nat}{l:List (List Int)}(h:SL S w (.slice a l.length c) l){i:Nat}(hi:i<l.length):∃b o u,a=some ⟨b,o,none⟩∧S b∧w.cell? ⟨b,o+i,none⟩=some u∧SI S w u (CF l i):=by
 obtain⟨a',c',h1,_,_,h4⟩:=h;cases h1;obtain⟨b,o,cs,g1,g2,g3,g4,u,rfl,hu⟩:=h4 i _ (DD hi);exact⟨b,o,u,g1,g2,by simpa using g4 0 _ rfl,hu⟩
def Mi (ab:Nat→Nat):Aw→Nat→List (List Int)→Int×Int
 |_,_,[]=>(-1,-1)
 |c,k,l::r=>match Lh c (CG ab c.now l) with
  |some x=>(k,x)
  |none=>Mi ab (Ft c l (CG ab c.now l)) (k+1) r
def FK (c:Aw)(ls:List (List Int)):Int:=PE (BR c) (if 5<ls.length then 6 else A4 (Cj c) ls)
def Em (c:Aw)(ls:List (List Int)):Int×Int:=if FK c ls=0 then Mi (Ay c.Aa) c 0 ls else(0,0)
theorem aD {ab:Nat→Nat}{c:Aw}{k:Nat}{ls:List (List Int)}(h:k<ls.length):Mi ab c k (ls.drop k)=(match Lh c (CG ab c.now (CF ls k)) with
  |some x=>((k:Int),x)
  |none=>Mi ab (Ft c (CF ls k) (CG ab c.now (CF ls k))) (k+1) (ls.drop (k+1))):=by
 obtain⟨hk,e⟩:=Zo.1 (DD h);rw[Z4 hk,e]
 rfl
theorem PL (t:Nat):(AB t).Nodup:=by
 unfold AB Fs;unfold List.Nodup;rw[List.pairwise_map];exact(List.Pairwise.filter _ (List.nodup_range (n:=3))).imp (fun h e=>h (by omega))
theorem KD:∀(l:List Int) (s:List Ax) (j:Nat),(∀x∈l,0≤x∧x<s.length)→(j:Int)∉l→Aj (Cz s l) j=Aj s j
 | [],_,_,_,_=>rfl
 |i::r,s,j,hx,hj=>by
  obtain⟨h0,h1⟩:=hx i (zF ..);have hi:i.toNat<s.length:=by omega
  show Aj (Cz (JY s i.toNat) r) j=_;rw[KD r _ j (fun x hm=>by rw[Gh];exact hx x (zr _ hm)) (fun hm=>hj (zr _ hm)),K6 hi,if_neg];intro e;exact hj (by rw[e,show((i.toNat:Nat):Int)=i by omega];exact zF ..)
theorem Mj:∀(l:List Int) (s:List Ax) (j:Nat),l.Nodup→(∀x∈l,0≤x∧x<s.length)→(Aj (Cz s l) j).left=(Aj s j).left∨(Aj (Cz s l) j).left=(Aj s j).left - 1
 | [],_,_,_,_=>.inl rfl
 |i::r,s,j,hn,hx=>by
  obtain⟨h0,h1⟩:=hx i (zF ..);have hi:i.toNat<s.length:=by omega
  have hr:∀x∈r,0≤x∧x<(JY s i.toNat).length:=fun x hm=>by rw[Gh];exact hx x (zr _ hm)
  show(Aj (Cz (JY s i.toNat) r) j).left=_∨(Aj (Cz (JY s i.toNat) r) j).left=_;by_cases hj:j=i.toNat
  ·rw[KD r _ j hr (fun hm=>(List.nodup_cons.1 hn).1 (by rw[hj,show((i.toNat:Nat):Int)=i by omega]at hm;exact hm)),K6 hi,if_pos hj,hj]
   exact .inr rfl
  ·have:=Mj r _ j (List.nodup_cons.1 hn).2 hr
   rw[K6 hi,if_neg hj]at this;exact this
theorem Ml:∀(l:List Int) (s:List Ax) (j:Nat),(∀x∈l,0≤x∧x<s.length)→(Aj (Cz s l) j).Ak=(Aj s j).Ak∧(Aj (Cz s l) j).over=(Aj s j).over∧(Aj (Cz s l) j).low=(Aj s j).low∧(Aj (Cz s l) j).high=(Aj s j).high
 | [],_,_,_=>⟨rfl,rfl,rfl,rfl⟩
 |i::r,s,j,hx=>by
  obtain⟨h0,h1⟩:=hx i (zF ..);have hi:i.toNat<s.length:=by omega
  have:=Ml r (JY s i.toNat) j (fun x hm=>by rw[Gh];exact hx x (zr _ hm));rw[K6 hi]at this;change(Aj (Cz (JY s i.toNat) r) j).Ak=_∧(Aj (Cz (JY s i.toNat) r) j).over=_∧(Aj (Cz (JY s i.toNat) r) j).low=_∧(Aj (Cz (JY s i.toNat) r) j).high=_;split at this
  ·next e=>rw[e]at this⊢;exact this
  ·exact this
def aE (S:Nat→Prop)(w w':Zb):Prop:=∀p v,S p.block→w.cell? p=some v→w'.cell? p=some v
theorem Sl.Hm {α:Type}{S:Nat→Prop}{R R':Zb→List Zc→α→Prop}{k:Nat}{w w':Zb}{v:Zc}{l:List α}(h:Sl S R k w v l)(hw:aE S w w')(hR:∀cs x,R w cs x→R' w' cs x):Sl S R' k w' v l:=by
 obtain⟨a,c,h1,h2,h3,h4⟩:=h;refine⟨a,c,h1,h2,h3,fun i x hx=>?_⟩;obtain⟨b,o,cs,g1,g2,g3,g4,g5⟩:=h4 i x hx;exact⟨b,o,cs,g1,g2,g3,fun j u hu=>hw ⟨b,o+i*k+j,none⟩ u g2 (g4 j u hu),hR _ _ g5⟩
theorem SI.Hm {S:Nat→Prop}{w w':Zb}{v:Zc}{l:List Int}(h:SI S w v l)(hw:aE S w w'):SI S w' v l:=Sl.Hm h hw fun _ _ h=>h
theorem SP.Hm {S:Nat→Prop}{w w':Zb}{v:Zc}{l:List (Int×Int)}(h:SP S w v l)(hw:aE S w w'):SP S w' v l:=Sl.Hm h hw fun _ _ h=>h
theorem RC.Hm {S:Nat→Prop}{w w':Zb}{v1 v2 v3 v4 v5:Zc}{c:Aw}(h:RC S w v1 v2 v3 v4 v5 c)(hw:aE S w w'):RC S w' v1 v2 v3 v4 v5 c:=
 ⟨h.base.Hm hw,h.Ag.Hm hw,h.hooks.Hm hw,Sl.Hm h.Aa hw fun _ _ ⟨v2,v3,e,x2,x3⟩=>⟨v2,v3,e,x2.Hm hw,x3.Hm hw⟩,h.now.Hm hw⟩
theorem Sl.live {α:Type}{S:Nat→Prop}{R R':Zb→List Zc→α→Prop}{k:Nat}{w:Zb}{v:Zc}{l:List α}(h:Sl S R k w v l)(hk:0<k)(hR:∀cs x,R w cs x→R' w cs x):Sl (fun b=>S b∧b<w.heap.size) R' k w v l:=by
 obtain⟨a,c,h1,h2,h3,h4⟩:=h;refine⟨a,c,h1,h2,h3,fun i x hx=>?_⟩;obtain⟨b,o,cs,g1,g2,g3,g4,g5⟩:=h4 i x hx;exact⟨b,o,cs,g1,⟨g2,ZH w _ (g4 0 _ (Z7 (by omega)))⟩,g3,g4,hR _ _ g5⟩
theorem RC.live {S:Nat→Prop}{w:Zb}{v1 v2 v3 v4 v5:Zc}{c:Aw}(h:RC S w v1 v2 v3 v4 v5 c):RC (fun b=>S b∧b<w.heap.size) w v1 v2 v3 v4 v5 c:=
 ⟨Sl.live h.base (by decide) fun _ _ x=>x,Sl.live h.Ag (by decide) fun _ _ x=>x,Sl.live h.hooks (by decide) fun _ _ x=>x,Sl.live h.Aa (by decide) fun _ _ ⟨v2,v3,e,x2,x3⟩=>⟨v2,v3,e,Sl.live x2 (by decide) fun _ _ x=>x,Sl.live x3 (by decide) fun _ _ x=>x⟩,Sl.live h.now (by decide) fun _ _ x=>x⟩
theorem dF (ls:List (List Int)):ls=(List.range' 0 ls.length).map (CF ls):=by
 apply YM;intro i;by_cases hi:i<ls.length
 ·rw[DD hi,ZaT,List.getElem?_range' hi]
  simp
 ·rw[ZS (by omega),ZS (by simp;omega)]
theorem VL (ls:List (List Int))(p:List Int→Bool):ls.filter p=((List.range' 0 ls.length).filter fun i=>p (CF ls i)).map (CF ls):=by
 conv=>lhs;rw[dF ls]
 rw[List.filter_map]
 rfl
def am4 (w:Zb)(a b e:Int):Ending→Zb→Prop:=Two w (.tuple #[.int .i64 a,.int .i64 b,.int .i64 e])
theorem D' {fn:Func}{p q r:Tmp}(h:fn.results= #[.tmp p,.tmp q,.tmp r])(tmps:Array Zc)(P:Zp)(w:Zb):(results fn tmps).run P w=.ok (.tuple #[tmps.getD p Ze,tmps.getD q Ze,tmps.getD r Ze]) w:=by
 simp[results,h]
structure DOK (c d:Aw)(k:Nat):Prop where
 base:d.base=c.base
 Ag:d.Ag=c.Ag
 hooks:d.hooks=c.hooks
 len:d.Aa.length=c.Aa.length
 now:d.now.length=c.Aa.length
 left:∀i,i<c.Aa.length→-(k:Int)≤(Aj d.Aa i).left∧(Aj d.Aa i).left≤4
 rest:∀i,i<c.Aa.length→(Aj d.Aa i).Ak.length≤1000∧(Aj d.Aa i).over.length≤1000
theorem DOK.y_ {c d:Aw}{k t:Nat}{l:List Int}(h:DOK c d k)(hl:l.length=c.Aa.length)(hx:∀x,x∈AB t→0≤x∧x<d.Aa.length):DOK c (Ft d l t) (k+1):=by
 refine⟨h.base,h.Ag,h.hooks,(Oy _ _).trans h.len,hl,fun i hi=>?_,fun i hi=>?_⟩
 ·have:=h.left i hi
  show -((k+1:Nat):Int)≤(Aj (Cz d.Aa (AB t)) i).left∧(Aj (Cz d.Aa (AB t)) i).left≤4;rcases Mj (AB t) d.Aa i (PL t) hx with e|e<;>rw[e]<;>omega
 ·have:=h.rest i hi
  obtain⟨e1,e2,_⟩:=Ml (AB t) d.Aa i hx;show(Aj (Cz d.Aa (AB t)) i).Ak.length≤1000∧(Aj (Cz d.Aa (AB t)) i).over.length≤1000;rw[e1,e2];exact this
theorem c34 {S:Nat→Prop}{w:Zb}{v1 v2 v3 v4 v5 v6:Zc}{c:Aw}{ls:List (List Int)}(h:RC S w v1 v2 v3 v4 v5 c)(hl:SL S w v6 ls)(hS:∀b,S b→b<w.heap.size)(hG:IZ w)(kB:∀i,i<c.Aa.length→(Aj c.Aa i).over.length≤1000):
  Calls Lp 34 #[.agg #[v1,v2,v3,v4,v5],v6] w (am4 w (Em c ls).1 (Em c ls).2 (FK c ls)):=by
 obtain⟨a1,c1,rfl,l1,m1⟩:=h.base.val;obtain⟨a2,c2,rfl,l2,m2⟩:=h.Ag.val;obtain⟨a3,c3,rfl,l3,m3⟩:=h.hooks.val;obtain⟨a4,c4,rfl,l4,m4⟩:=h.Aa.val;obtain⟨a5,c5,rfl,l5,m5⟩:=h.now.val;obtain⟨a6,c6,rfl,l6,m6⟩:=hl.val;have I3:=DN;have Bw:Zm w.heap.size w (w.alloc (.cells #[.slice a1 c.base.length c1,.slice a2 c.Ag.length c2,.slice a3 c.hooks.length c3,.slice a4 c.Aa.length c4,.slice a5 c.now.length c5] 26)):=(Zi _ _).alloc (Zj _) _;by_cases K4:BR c=0
 ·have pN:=Zh (fun W hB=>nJ (w:=W) (h.later hB) (A8 hS hB) K4)
  have H89:=Zh (fun W hB v l (hv:SI S w v l)=>c89 (w:=W) (h.later hB) (hv.later hB) (A8 hS hB));have HE:=Zh (show FK c ls=if 5<ls.length then 6 else A4 (Cj c) ls by rw[FK,BP K4]);by_cases hm:5<ls.length
  ·have HX:=Zh (show FK c ls=6 by rw[HE.out,if_pos hm])
   have HV:=Zh (show Em c ls=(0,0) by rw[Em,HX.out];rfl);have hmi:(5:Int)<(ls.length:Int):=by omega
   clear K4;go_enter Lp.func34,n34;go_wp2_with (go_at_call 88;refine(pN.out _ Bw).mono ?_;rintro e w1 ⟨rfl,Bh⟩;have BA:=Bw.trans (Bh.mono Bw.size));refine ZX (D' rfl _ _ _) rfl ?_;refine⟨?_,.inl (by rw[HV.out,HX.out];rfl)⟩
   repeat (with_reducible first|exact BA|refine bA ?_|(refine bS ?_ (by omega))|refine bD ?_|refine bN ?_)
  ·have HX:=Zh (show FK c ls=A4 (Cj c) ls by rw[HE.out,if_neg hm])
   have hm5:ls.length≤5:=by omega
   have HB0:=Zh K4;have hv:=Gg K4;clear K4 hm;go_enter Lp.func34,n34;go_wp2_with (go_at_call 88;refine(pN.out _ Bw).mono ?_;rintro e w1 ⟨rfl,Bh⟩;have BA:=Bw.trans (Bh.mono Bw.size));obtain⟨W2,QB⟩:∃W2,W2=w1.alloc (.cells (Ba (.slice a1 c.base.length c1) (.slice a2 c.Ag.length c2) (.slice a3 c.hooks.length c3) (.slice a4 c.Aa.length c4) (.slice a5 c.now.length c5) (Ay c.Aa)) 112):=⟨_,rfl⟩;have LB:Zm w1.heap.size w1 W2:=by rw[QB];exact(Zi _ _).alloc (Zj _) _
   have Ta:W2.heap[w1.heap.size]?=some (.cells (Ba (.slice a1 c.base.length c1) (.slice a2 c.Ag.length c2) (.slice a3 c.hooks.length c3) (.slice a4 c.Aa.length c4) (.slice a5 c.now.length c5) (Ay c.Aa)) 112 (0,0)):=by rw[QB];exact Bv _ _
   have kq:=(Bh.block w.heap.size (by simp)).trans (Bv w _);have hK2:=(LB.block _ (Za.1 kq).1).trans kq;have Dz:=BA.trans (LB.mono BA.size);change Code.wp _ _ _ _ (w1.alloc (.cells (Ba (.slice a1 c.base.length c1) (.slice a2 c.Ag.length c2) (.slice a3 c.hooks.length c3) (.slice a4 c.Aa.length c4) (.slice a5 c.now.length c5) (Ay c.Aa)) 112));rw[←QB];clear QB LB kq Bh pN;go_loopg [30] ls.length (fun g i wr=>∃k:Nat,k≤ls.length∧g=ls.length - k∧i=.int .i64 k∧A4 (Cj c) (ls.drop k)=A4 (Cj c) ls∧Zm W2.heap.size W2 wr)
   case atStart=>exact⟨0,Zt _,rfl,rfl,rfl,Zi _ _⟩
   case round=>
    obtain⟨k,hk,rfl,rfl,CO,KE⟩:=hrel;have hf:=Zh CO;clear CO;have Ck:=Dz.trans (KE.mono Dz.size);have hKr:=(KE.block _ (Za.1 hK2).1).trans hK2;by_cases Az:k<ls.length
    ·obtain⟨b,o,u,rfl,hb,hc,hu⟩:=hl.at_ Az
     rw[←Ck.cell (p:=⟨b,o+k,none⟩) (hS b hb)]at hc;obtain⟨a7,c7,rfl,l7,m7⟩:=hu.val;have hfd:=Zh (EO (f:=Cj c) (DD Az));have k0:=ch (i:=0) hKr (v:=.slice a1 c.base.length c1) rfl;have k1:=ch (i:=1) hKr (v:=.slice a2 c.Ag.length c2) rfl;have k2:=ch (i:=2) hKr (v:=.slice a3 c.hooks.length c3) rfl;have k3:=ch (i:=3) hKr (v:=.slice a4 c.Aa.length c4) rfl;have k4:=ch (i:=4) hKr (v:=.slice a5 c.now.length c5) rfl;go_wp2_with (go_at_call 89;refine(H89.out _ Ck _ _ hu).mono ?_;rintro e w3 ⟨rfl,DQ⟩;have Nb:=KE.trans (DQ.mono KE.size))
     ·have q:(Cj c (CF ls k) !=0)=true:=by assumption
      have e1:A4 (Cj c) ls=Cj c (CF ls k):=by rw[←hf.out,hfd.out,if_neg (Gd q)]
      refine ZX (D' rfl _ _ _) rfl ?_;have e2:FK c ls=Cj c (CF ls k):=by rw[HX.out,e1]
      have e3:Em c ls=(0,0):=by rw[Em,e2,if_neg (Gd q)]
      exact⟨Dz.trans (Nb.mono Dz.size),.inl (by rw[e3,e2];rfl)⟩
     ·have q:(Cj c (CF ls k) !=0)=false:=by assumption
      go_roundg (ls.length - (k+1))
      case rel=>exact⟨k+1,by omega,rfl,by go_num,by rw[←hf.out,hfd.out,if_pos (Fp q)],Nb⟩
      case measure=>omega
    ·have e0:A4 (Cj c) ls=0:=by rw[←hf.out];exact FJ (by omega)
     have HX0:=Zh (show FK c ls=0 by rw[HX.out,e0]);have HV:=Zh (show Em c ls=Mi (Ay c.Aa) c 0 ls by rw[Em,if_pos HX0.out]);have HSE:=Zh (fun i (hi:i<ls.length)=>D8 e0 i _ (DD hi));obtain⟨ab,Eh⟩:∃ab,ab=Ay c.Aa:=⟨_,rfl⟩;have vx:=VH hv.over;have haL:=K3 hv.over;have fZ:=(KE.block _ (Za.1 Ta).1).trans Ta;rw[←Eh]at HV vx haL fZ;have vy:=Zh Eh;have Jm:=hv.few;have vz:=hv.yT;have uT:=hv.E4;have hD0:DOK c c 0:=⟨rfl,rfl,rfl,rfl,vz,fun i hi=>by have:=hv.left i hi;omega,fun i hi=>⟨by have:=hv.Ak i hi;omega,kB i hi⟩⟩;have iU:∀b,S b→b<wr.heap.size∧b≠w1.heap.size:=fun b hb=>⟨Zl (hS b hb) Ck.size,by have:=hS b hb;have:=BA.size;omega⟩;have am7:=h.later Ck;have HEQ:=Zh hv.Ui;have HHQ:=Zh hv.hooks;clear hf e0 Eh hKr Dz hK2 Ta KE Bw vz;go_wp2;go_loopg [43] ls.length (fun g i wx=>∃(k:Nat) (d:Aw) (T:Nat→Prop) (q1 q2 q3 q4 q5:Option Addr) (d1 d2 d3 d4 d5:Nat),k≤ls.length∧g=ls.length - k∧i=.int .i64 k∧Mi ab d k (ls.drop k)=Mi ab c 0 ls∧DOK c d k∧Zm w.heap.size w wx∧
      wx.heap[w1.heap.size]?=some (.cells #[.slice q1 d.base.length d1,.slice q2 d.Ag.length d2,.slice q3 d.hooks.length d3,.slice q4 d.Aa.length d4,.slice q5 d.now.length d5,.int .u8 (ab 0),.int .u8 (ab 1),.int .u8 (ab 2)] 112 (0,0))∧RC T wx (.slice q1 d.base.length d1) (.slice q2 d.Ag.length d2) (.slice q3 d.hooks.length d3) (.slice q4 d.Aa.length d4) (.slice q5 d.now.length d5) d∧(∀b,T b→b<wx.heap.size∧b≠w1.heap.size))
     case atStart=>exact⟨0,c,S,_,_,_,_,_,_,_,_,_,_,Zt _,rfl,rfl,rfl,hD0,Ck,fZ,am7,iU⟩
     case round=>
      obtain⟨k,d,T,q1,q2,q3,q4,q5,d1,d2,d3,d4,d5,hk,rfl,rfl,CO,hD,Uh,Se,hR,hT⟩:=hrel;have hf:=Zh CO;clear CO;by_cases GQ:k<ls.length
      ·obtain⟨b,o,u,rfl,hb,hc,hu⟩:=hl.at_ GQ
       rw[←Uh.cell (p:=⟨b,o+k,none⟩) (hS b hb)]at hc;obtain⟨a7,c7,rfl,l7,m7⟩:=hu.val;have FB:=HSE.out k GQ;obtain⟨hlen,_⟩:=ER FB;have hdn:=hD.now;have hds:=hD.len;obtain⟨lk,hlk⟩:∃lk,lk=CF ls k:=⟨_,rfl⟩;have hld:=Zh (aD (ab:=ab) (c:=d) GQ);rw[←hlk]at hc hu l7 hlen hld;clear hlk FB;obtain⟨t,ht⟩:∃t,t=CG ab d.now lk:=⟨_,rfl⟩;have bp:t<2^c.Aa.length:=by rw[ht];exact Ju haL lk 0 0 (by omega) (Nat.two_pow_pos _)
       have nS:t<8:=Zl bp (show 2^c.Aa.length≤2^3 from Nat.pow_le_pow_right (by decide) Jm.2);have aF:∀x,x∈AB t→0≤x∧x<d.Aa.length:=by rw[hds];exact Nk bp
       have hTS:∀W,Zm wr.heap.size wr W→∀b,(T b∨S b)→b<W.heap.size:=fun W KC b hb=>by
        rcases hb with hb|hb
        ·have:=(hT b hb).1;have:=KC.size;omega
        ·have:=hS b hb;have:=Uh.size;have:=KC.size;omega
       have hRT:∀W,Zm wr.heap.size wr W→RC (fun b=>T b∨S b) W (.slice q1 d.base.length d1) (.slice q2 d.Ag.length d2) (.slice q3 d.hooks.length d3) (.slice q4 d.Aa.length d4) (.slice q5 d.now.length d5) d:=fun W KC=>(hR.later KC).imp (fun b hb=>.inl hb);have huT:∀W,Zm wr.heap.size wr W→SI (fun b=>T b∨S b) W (.slice a7 lk.length c7) lk:=fun W KC=>Sl.imp ((hu.later Uh).later KC) (fun b hb=>.inr hb) (fun _ _ x=>x);have Qd:=Zh (fun W (KC:Zm wr.heap.size wr W)=>c90 (w:=W) (l:=lk) (ab:=ab) (hRT W KC) (huT W KC) (by omega) (by omega) vx (by rw[←ht];exact aF) (hTS W KC));have H92:=Zh (fun W (KC:Zm wr.heap.size wr W) (h1:k≤4)=>c92 (w:=W) (l:=lk) (t:=t) (hRT W KC) (huT W KC) (hTS W KC) nS aF (fun i hi=>by have:=hD.left i (by omega);omega) (by rw[hD.base];omega) (by rw[hD.Ag,HEQ.out];omega) (by rw[hD.hooks,HHQ.out];omega) (by omega) (by omega) (by omega) (fun i hi=>hD.rest i (by omega)) (by omega) (ab 0) (ab 1) (ab 2));rw[←ht]at Qd hld;have HT:=Zh ht;have HDw:=Zh (hD.y_ (t:=t) (l:=lk) (by omega) aF);have k0:=ch (i:=0) Se (v:=.slice q1 d.base.length d1) rfl;have k1:=ch (i:=1) Se (v:=.slice q2 d.Ag.length d2) rfl;have k2:=ch (i:=2) Se (v:=.slice q3 d.hooks.length d3) rfl;have k3:=ch (i:=3) Se (v:=.slice q4 d.Aa.length d4) rfl;have k4:=ch (i:=4) Se (v:=.slice q5 d.now.length d5) rfl;have k5:=ch (i:=5) Se (v:=.int .u8 (ab 0)) rfl;have k6:=ch (i:=6) Se (v:=.int .u8 (ab 1)) rfl;have k7:=ch (i:=7) Se (v:=.int .u8 (ab 2)) rfl;have hwl:=Uh.size;have Ps:=(Za.1 Se).1;have hGg:∀W,Zm wr.heap.size wr W→IZ W:=fun W KC=>hG.later (Uh.trans (KC.mono Uh.size));have HGg:=Zh hGg;have HGx:=Zh Se;have HR:=Zh hR;have HTT:=Zh hT;clear ht hTS hRT huT hD hGg Se hR hT aF bp hb hu hlen hdn hds;cases iw:Lh d t with
       |some x=>
        rw[iw]at Qd hld;change Hid (∀W (KC:Zm wr.heap.size wr W),Calls Lp 90 _ _ fun e w'=>e=.returned (.tuple #[.int .u8 0,.iface 121 (.agg #[.int .i64 x])])∧Zm W.heap.size W w') at Qd;have HLD:=Zh (show Em c ls=((k:Int),x) by rw[HV.out, ←hf.out,hld.out]);clear iw hf hld;go_wp2_with (go_at_call 90;refine(Qd.out _ (Zi _ _)).mono ?_;rintro e w3 ⟨rfl,dG⟩);obtain⟨W4,Et⟩:∃W4,W4=w3.alloc (.cells #[.int .i64 0] 121):=⟨_,rfl⟩;have K5:Zm wr.heap.size wr W4:=by rw[Et];exact bA dG
        have vA:W4.heap[w3.heap.size]?=some (.cells #[.int .i64 0] 121 (0,0)):=by rw[Et];exact Bv _ _
        rw[←Et];clear Et;have Tc:=dG.size;have Dz:=Uh.trans (K5.mono Uh.size);have ht4:=(Za.1 vA).1;refine(am3 vA (HGg.out _ K5)).mono ?_;rintro e w6 (⟨rfl,DQ⟩|⟨DQ,x',rfl,Vq⟩)
        ·have hS4:Zm w.heap.size w (W4.setCell ⟨w3.heap.size,0,none⟩ (.int .i64 x)):=bS Dz (by omega)
         have Nb:Zm w.heap.size w w6:=hS4.trans (DQ.mono Dz.size);have hcx:=(DQ.cell (p:=⟨w3.heap.size,0,none⟩) ht4).trans (ch (A5 vA (.int .i64 x)) (i:=0) rfl);clear DQ hS4 vA K5 dG Dz;dsimp only;go_wp2;go_quiet (fail);go_wp2;refine ZX (D' rfl _ _ _) rfl ?_;exact⟨Zan Nb _,.inl (by rw[HLD.out,HX0.out];rfl)⟩
        ·exact⟨rfl,Dz.trans (DQ.mono Dz.size),.inr ⟨_,rfl,Vq⟩⟩
       |none=>
        rw[iw]at Qd hld;change Hid (∀W (KC:Zm wr.heap.size wr W),Calls Lp 90 _ _ fun e w'=>e=.returned (.tuple #[.int .u8 t,.nilIface])∧Zm W.heap.size W w') at Qd;clear iw;go_wp2_with (go_at_call 90;refine(Qd.out _ (Zi _ _)).mono ?_;rintro e w3 ⟨rfl,dG⟩);obtain⟨W4,Et⟩:∃W4,W4=w3.alloc (.cells #[.int .i64 0] 121):=⟨_,rfl⟩;have K5:Zm wr.heap.size wr W4:=by rw[Et];exact bA dG
        have vA:W4.heap[w3.heap.size]?=some (.cells #[.int .i64 0] 121 (0,0)):=by rw[Et];exact Bv _ _
        rw[←Et];clear Et;have Tc:=dG.size;have Dz:=Uh.trans (K5.mono Uh.size);have ht4:=(Za.1 vA).1;refine(am2 vA (HGg.out _ K5)).mono ?_;rintro e w6 ⟨DQ,rfl|⟨x',rfl,Vq⟩⟩
        ·have Uu:=K5.trans (DQ.mono K5.size)
         have hk4:k≤4:=by omega
         have h92:=H92.out _ Uu hk4;clear DQ vA K5 dG Dz;have H92:=Zh h92;clear h92;obtain⟨hc6,hf6⟩:=EM Uu;dsimp only;go_wp2_with (go_at_call 92;refine H92.out.mono ?_;rintro e w7 ⟨u1,u2,u3,u4,u5,rfl,Nb,vB⟩;obtain⟨p1,t1,rfl,_⟩:=vB.base.val;obtain⟨p2,t2,rfl,_⟩:=vB.Ag.val;obtain⟨p3,t3,rfl,_⟩:=vB.hooks.val;obtain⟨p4,t4,rfl,_⟩:=vB.Aa.val;obtain⟨p5,t5,rfl,_⟩:=vB.now.val;have KF:=(Nb.block _ (Zl Ps Uu.size)).trans ((Uu.block _ Ps).trans HGx.out);have x0:=ch (i:=0) KF (v:=.slice q1 d.base.length d1) rfl;have y0:=cf (i:=0) KF;have x1:=ch (i:=1) KF (v:=.slice q2 d.Ag.length d2) rfl;have y1:=cf (i:=1) KF;have x2:=ch (i:=2) KF (v:=.slice q3 d.hooks.length d3) rfl;have y2:=cf (i:=2) KF;have x3:=ch (i:=3) KF (v:=.slice q4 d.Aa.length d4) rfl;have y3:=cf (i:=3) KF;have x4:=ch (i:=4) KF (v:=.slice q5 d.now.length d5) rfl;have y4:=cf (i:=4) KF;have x5:=ch (i:=5) KF (v:=.int .u8 (ab 0)) rfl;have y5:=cf (i:=5) KF;have x6:=ch (i:=6) KF (v:=.int .u8 (ab 1)) rfl;have y6:=cf (i:=6) KF;have x7:=ch (i:=7) KF (v:=.int .u8 (ab 2)) rfl;have y7:=cf (i:=7) KF;clear hc6 hf6);have IX:Zm w.heap.size w w7:=(Uh.trans (Uu.mono Uh.size)).trans (Nb.mono (Uh.trans (Uu.mono Uh.size)).size);go_roundg (ls.length - (k+1))
         case rel=>
          refine⟨k+1,Ft d lk t,Cy w6.heap.size w7,p1,p2,p3,p4,p5,t1,t2,t3,t4,t5,by omega,rfl,by go_num,by rw[←hf.out,hld.out],HDw.out,?_,?_,?_,?_⟩
          ·have hwb:w.heap.size≤w1.heap.size:=BA.size
           repeat (with_reducible first|exact IX|(refine bS ?_ (by omega)))
          ·exact A5 (A5 (A5 (A5 (A5 (A5 (A5 (A5 KF _) _) _) _) _) _) _) _
          ·have BI:∀b,Cy w6.heap.size w7 b→b≠w1.heap.size:=fun b hb e=>by have:=hb.1;have:=Uu.size;omega
           refine vB.Au ?_
           repeat (with_reducible first|exact CC.refl _ _|refine afA ?_ BI)
          ·intro b hb
           have:=Uu.size;refine⟨by simpa using hb.2,?_⟩;have:=hb.1;omega
         case measure=>omega
        ·exact⟨rfl,Dz.trans (DQ.mono Dz.size),.inr ⟨_,rfl,Vq⟩⟩
      ·have e9:Em c ls=(-1,-1):=by rw[HV.out, ←hf.out,zf.2 (by omega)];rfl
       have E9:=Zh e9;clear e9 hf hD hR hT Se;go_wp2;refine ZX (D' rfl _ _ _) rfl ?_;exact⟨Uh,.inl (by rw[E9.out,HX0.out];rfl)⟩
 ·have HE:=Zh (show FK c ls=BR c by rw[FK,Ku K4])
  have HV:=Zh (show Em c ls=(0,0) by rw[Em,HE.out,if_neg K4]);have pN:=Zh (fun W hB=>c88 (w:=W) (h.later hB) (A8 hS hB));obtain⟨x,hx⟩:∃x,x=BR c:=⟨_,rfl⟩;have Og:x≠0:=by rw[hx];exact K4
  have HX:=Zh hx;clear hx K4;go_enter Lp.func34,n34;go_wp2_with (go_at_call 88;refine(pN.out _ Bw).mono ?_;rintro e w1 ⟨q1,q2,q3,q4,q5,n1,n2,n3,n4,n5,d1,d2,d3,d4,d5,k0,k1,k2,rfl,Bh,_⟩;have BA:=Bw.trans (Bh.mono Bw.size);rw[←HX.out]);refine ZX (D' rfl _ _ _) rfl ?_;refine⟨?_,.inl (by rw[HV.out,HE.out, ←HX.out];rfl)⟩
  repeat (with_reducible first|exact BA|refine bA ?_|(refine bS ?_ (by omega))|refine bD ?_|refine bN ?_)
def KG (ab:Nat→Nat)(t d:Nat)(i:Int):Bool:= !hasB d i.toNat&&(AB t).all fun b=> !(hasB (ab b.toNat) i.toNat&& !hasB d b.toNat)
def Ij (ab:Nat→Nat)(t:Nat):Nat→List Int→Nat→Option (List Int)
 |f,o,d=>if o.length<(AB t).length then(match f with
   |0=>none
   |f+1=>match(AB t).find? (KG ab t d) with
    |none=>none
    |some i=>Ij ab t f (o++ [i]) (IV d i.toNat)) else some o
def VM (c:Aw)(l:List Int):Option (List Int):=Ij (Ay c.Aa) (D9 c l) 3 [] 0
def Mm (c:Aw)(l:List Int):List Int:=if D_ c l=0 then(VM c l).getD [] else []
theorem n8 {l:List Int}{f:Int→Bool}{k:Nat}(h:k<l.length):(l.drop k).all f=(f (nth l k)&&(l.drop (k+1)).all f):=by
 obtain⟨hk,e⟩:=Zo.1 (Bo h);rw[Z4 hk,e,List.all_cons]
theorem jB {ab:Nat→Nat}{t f d:Nat}{o L:List Int}(h:Ij ab t f o d=some L)(hl:o.length<(AB t).length):
  ∃f' i,f=f'+1∧(AB t).find? (KG ab t d)=some i∧Ij ab t f' (o++ [i]) (IV d i.toNat)=some L:=by
 unfold Ij at h;rw[if_pos hl]at h;cases f with
 |zero=>cases h
 |succ f=>
  simp only at h;cases e:(AB t).find? (KG ab t d) with
  |none=>rw[e]at h;cases h
  |some i=>rw[e]at h;exact⟨f,i,rfl,rfl,h⟩
theorem dH {ab:Nat→Nat}{t f d:Nat}{o L:List Int}(h:Ij ab t f o d=some L)(hl:¬o.length<(AB t).length):o=L:=by
 unfold Ij at h;rw[if_neg hl]at h;cases h
 rfl
theorem c54 {S:Nat→Prop}{w:Zb}{v1 v2 v3 v4 v5 v6:Zc}{c:Aw}{l:List Int}(h:RC S w v1 v2 v3 v4 v5 c)(hl:SI S w v6 l)(hS:∀b,S b→b<w.heap.size)(hgo:D_ c l=0→∃L,VM c l=some L):
  Calls Lp 54 #[.agg #[v1,v2,v3,v4,v5],v6] w (fV w (Mm c l) (D_ c l)):=by
 obtain⟨a1,c1,rfl,l1,m1⟩:=h.base.val;obtain⟨a2,c2,rfl,l2,m2⟩:=h.Ag.val;obtain⟨a3,c3,rfl,l3,m3⟩:=h.hooks.val;obtain⟨a4,c4,rfl,l4,m4⟩:=h.Aa.val;obtain⟨a5,c5,rfl,l5,m5⟩:=h.now.val;obtain⟨a6,c6,rfl,l6,m6⟩:=hl.val;obtain⟨i0,hi,Fg,El,EN⟩:=YC Lu;have hu:=CM ZaF;have I3:=DN;have Bw:Zm w.heap.size w (w.alloc (.cells #[.slice a1 c.base.length c1,.slice a2 c.Ag.length c2,.slice a3 c.hooks.length c3,.slice a4 c.Aa.length c4,.slice a5 c.now.length c5] 26)):=(Zi _ _).alloc (Zj _) _;have afF:=Zh (fun W hB=>alQ (w:=W) (h.later hB) (hl.later hB) (A8 hS hB));by_cases h0:D_ c l=0
 ·obtain⟨L,hL⟩:=hgo h0
  have HV:=Zh (show Mm c l=L by rw[Mm,if_pos h0,hL];rfl);have HR:=Zh h0;obtain⟨ha0,_⟩:=Bc h0;obtain⟨K4,FB⟩:=Bc ha0;have hv:=Gg K4;have hn:l.length≤c.Aa.length:=by have:=(ER FB).1;omega
  have HS:=Zh (Sb hv hn);have vx:=VH hv.over;have nS:D9 c l<8:=Um vx (by have:=hv.few;omega);obtain⟨t,ht⟩:∃t,t=D9 c l:=⟨_,rfl⟩;have HS2:∀x,x∈AB t→0≤x∧x<(3:Int):=Nk (n:=3) (by rw[ht];exact nS);have HL:=Zh (show Ij (Ay c.Aa) t 3 [] 0=some L by rw[ht];exact hL);rw[←ht]at nS;have HT:=Zh ht;have hle:(AB t).length≤3:=IY t 3;obtain⟨ab,Eh⟩:∃ab,ab=Ay c.Aa:=⟨_,rfl⟩;have vy:=Zh Eh;rw[←Eh]at HL vx;clear h0 hL ha0 K4 FB ht Eh hv hn hgo;go_enter Lp.func54,n54;go_wp2;go_step3;go_wp2_with (first|(go_at_call 119;refine(afF.out _ Bw).mono ?_;rintro e w1 ⟨g,t',rfl,Bh,T5,pS⟩;obtain⟨rfl,rfl⟩:=T5 HR.out;clear T5 pS;have BA:=Bw.trans (Bh.mono Bw.size);rw[HR.out, ←HT.out, ←vy.out];simp only[Ba])|(go_at_call 120;refine(yO nS).mono ?_;rintro e w2 ⟨v,rfl,Dz,hv,_⟩;have QC:=(Dz.block _ (by simp)).trans (Bv _ _);have Ck:=(bA BA).trans (Dz.mono (bA BA).size);obtain⟨a7,c7,rfl,l7,m7⟩:=hv.val));go_step3;go_wp2;have pz:=Za.1 QC|>.1;go_loopg [9,10] 3 (fun g v x wr=>∃(f:Nat) (o:List Int) (d:Nat),Ij ab t f o d=some L∧f+o.length=3∧g=f∧x=.int .u8 d∧d<8∧wr.ownsRow w2.heap.size 3 1 v o.length (o.map (ZT .i64))∧Zm w2.heap.size w2 wr)
  case atStart=>exact⟨3,[],0,HL.out,rfl,rfl,rfl,by omega,Yz _ _ _ _,Zi _ _⟩
  case round=>
   obtain⟨f,o,d,CO,hfo,rfl,rfl,hd8,AY,KE⟩:=hrel;have hf:=Zh CO;clear CO;obtain⟨a8,c8,hv8,l8,m8,_⟩:=Jr AY;subst hv8;by_cases Az:o.length<(AB t).length
   ·obtain⟨f',x,rfl,afH,n9⟩:=jB hf.out Az
    have B3:=Zh afH;have O2:=Zh n9;clear afH n9;have f_:=(KE.block _ pz).trans QC;have aa3:=Zh (fun s i (hs:s<8) (hi:i<3) W=>yI s i hs hi W);go_wp2;go_step3;go_wp2;go_step3;go_wp2;go_loopg [9,10,35] (AB t).length (fun g v9 v10 i wx=>∃k:Nat,k≤(AB t).length∧g=(AB t).length - k∧i=.int .i64 k∧v9=.slice a8 o.length c8∧v10=.int .u8 d∧((AB t).drop k).find? (KG ab t d)=some x∧wx=wr)
    case atStart=>exact⟨0,Zt _,rfl,rfl,rfl,rfl,B3.out,rfl⟩
    case round=>
     obtain⟨k,hk,rfl,rfl,rfl,rfl,CO,rfl⟩:=hrel;have Lf:=Zh CO;clear CO;by_cases GQ:k<(AB t).length
     ·obtain⟨b,o1,rfl,hb,hc⟩:=hv.at_ GQ
      have GN:b<w2.heap.size:=hb.2;rw[←KE.cell (p:=⟨b,o1+k,none⟩) GN]at hc;have hfd:=Zh (Un (f:=KG ab t d) GQ);obtain⟨he0,he3⟩:=HS2 _ (Qx GQ);obtain⟨y,hy⟩:∃y:Nat,nth (AB t) k=y:=⟨(nth (AB t) k).toNat,by omega⟩;rw[hy]at hc hfd he0 he3;have HY:=Zh hy;clear hy;have hy3:y<3:=by omega
      have hyi:(y:Int)<3:=by omega
      by_cases hdy:hasB d y=true
      ·have px:KG ab t d (y:Int)=false:=by simp[KG,hdy]
       have HFR:=Zh px;clear px;go_wp2_with (go_at_call 122;refine(aa3.out d y hd8 hy3 _).mono ?_;rintro e w' ⟨rfl,rfl⟩);go_roundg ((AB t).length - (k+1))
       case rel=>exact⟨k+1,by omega,rfl,by go_num,rfl,rfl,by rw[←Lf.out,hfd.out,HFR.out];rfl,rfl⟩
       case measure=>omega
      ·have amb:hasB d y=false:=by simpa using hdy
       clear hdy;go_wp2_with (go_at_call 122;refine(aa3.out d y hd8 hy3 _).mono ?_;rintro e w' ⟨rfl,sB⟩;obtain rfl:=sB.symm;clear sB);go_loopg [44] (AB t).length (fun g i wx=>∃m:Nat,m≤(AB t).length∧g=(AB t).length - m∧i=.int .i64 m∧(((AB t).drop m).all fun b=> !(hasB (ab b.toNat) (y:Int).toNat&& !hasB d b.toNat))=KG ab t d (y:Int)∧wx=wr)
       case atStart=>exact⟨0,Zt _,rfl,rfl,by simp[KG,amb],rfl⟩
       case round=>
        obtain⟨m,hm,rfl,rfl,CO,rfl⟩:=hrel;have bt:=Zh CO;clear CO;by_cases dh:m<(AB t).length
        ·obtain⟨b',o2,e',GL,NT⟩:=hv.at_ dh
         cases e';rw[←KE.cell (p:=⟨b,o1+m,none⟩) GN]at NT;have had:=Zh (n8 (f:=fun b=> !(hasB (ab b.toNat) (y:Int).toNat&& !hasB d b.toNat)) dh);obtain⟨dI,amc⟩:=HS2 _ (Qx dh);obtain⟨z,hz⟩:∃z:Nat,nth (AB t) m=z:=⟨(nth (AB t) m).toNat,by omega⟩;rw[hz]at NT had dI amc;clear hz;have Tc:z<3:=by omega
         have hzi:(z:Int)<3:=by omega
         have Eh:=vx z Tc;have gz:=ch f_ (Hh Tc);go_wp2_with (go_at_call 122;refine(aa3.out _ _ (by assumption) (by assumption) _).mono ?_;rintro e w' ⟨rfl,sB⟩;obtain rfl:=sB.symm;clear sB)
         ·have q1:hasB (ab z) y=true:=by assumption
          have q2':(!hasB d z)=true:=by assumption
          have q2:hasB d z=false:=by simpa using q2'
          have e4:KG ab t d (y:Int)=false:=by rw[←bt.out,had.out];simp[q1,q2]
          go_roundg ((AB t).length - (k+1))
          case rel=>exact⟨k+1,by omega,rfl,by go_num,rfl,rfl,by rw[←Lf.out,hfd.out,e4];rfl,rfl⟩
          case measure=>omega
         ·have q2':(!hasB d z)=false:=by assumption
          have q2:hasB d z=true:=by simpa using q2'
          go_roundg ((AB t).length - (m+1))
          case rel=>exact⟨m+1,by omega,rfl,by go_num,by rw[←bt.out,had.out];simp[q2],rfl⟩
          case measure=>omega
         ·have q1':¬hasB (ab z) y=true:=by assumption
          have q1:hasB (ab z) y=false:=by simpa using q1'
          go_roundg ((AB t).length - (m+1))
          case rel=>exact⟨m+1,by omega,rfl,by go_num,by rw[←bt.out,had.out];simp[q1],rfl⟩
          case measure=>omega
        ·have e2:KG ab t d (y:Int)=true:=by rw[←bt.out,zf.2 (by omega)];rfl
         have e3:(y:Int)=x:=by
          have:=Lf.out;rw[hfd.out,if_pos e2]at this;exact Z2 this
         subst e3;clear e2;have wW:Ij ab t f' (o++ [(y:Int)]) (IV d y)=some L:=O2.out;have O2:=Zh wW;have ame:=KE.size;clear wW bt;have au2:o.length≤3:=by omega
         go_wp2_with (first|(go_at_call 123;refine(yJ d y hd8 hy3 _).mono ?_;rintro e w' ⟨rfl,sB⟩;obtain rfl:=sB.symm;clear sB)|(at_builtin;refine ZaV _ rfl _ _ 22 rfl w2.heap.size 3 i0 (.int .i64 0) 1 8 hu (D3 hi) Fg El EN rfl (by decide) _ _ _ rfl (AY.alloc _) ⟨_,0,none⟩ 1 1 [.int .i64 y] rfl rfl (by intro j u hj;match j,hj with|0,hj=>(simp at hj;subst hj;simp[Addr.add])) (by intro u hu;simp at hu;subst hu;rfl) (by unfold maxLen;omega) (by omega) (by simp;omega) ?_;intro v' w9 Be AG Fi));have hg:(wr.alloc (.cells #[.int .i64 y] 3)).grownBy w9 (Zy a8 o.length c8).ownBlock:=AG;have I5:Zm w2.heap.size w2 w9:=Br (KE.alloc ame _) hg (fun k hk=>(AY.lt k hk).1) (by simp;omega);have Cx:w9.ownsRow w2.heap.size 3 1 v' (o++ [(y:Int)]).length ((o++ [(y:Int)]).map (ZT .i64)):=by simpa using Be
         clear AG hg Fi Be;rw[Exit.noGoto_exit];go_wp2;go_roundg f'
         case rel=>exact⟨f',o++ [(y:Int)],IV d y,O2.out,by simp;omega,rfl,rfl,IW hd8 hy3,Cx,I5⟩
         case measure=>omega
     ·exact absurd Lf.out (by rw[zf.2 (by omega)];simp)
   ·have e1:=Zh (dH hf.out Az)
    clear hf;have f_:=(KE.block _ pz).trans QC;have hsi:=dm AY;have DQ:=Ck.trans (KE.mono Ck.size);have D1:=Ck.size;go_wp2;rw[Exit.noGoto_ret];go_ret2;exact⟨.slice a8 o.length c8,by rw[HR.out];rfl,DQ,by rw[HV.out, ←e1.out];exact hsi.imp (fun b hb=>⟨Zx D1 hb.1,hb.2⟩) fun _ _ h=>h⟩
 ·obtain⟨x,hx⟩:∃x,x=D_ c l:=⟨_,rfl⟩
  have Og:x≠0:=by rw[hx];exact h0
  have HX:=Zh hx;have HV:=Zh (show Mm c l=[] by rw[Mm,if_neg h0]);clear hx h0 hgo;go_enter Lp.func54,n54;go_wp2;go_step3;go_wp2_with (go_at_call 119;refine(afF.out _ Bw).mono ?_;rintro e w1 ⟨g,t',rfl,Bh,T5,pS⟩;obtain⟨rfl,rfl⟩:=pS (by rw[←HX.out];exact Og);clear T5 pS;have BA:=Bw.trans (Bh.mono Bw.size);rw[←HX.out]);rw[Exit.noGoto_ret];go_ret2;refine⟨.slice none 0 0,by rw[HX.out];rfl,?_,by rw[HV.out];exact VI⟩
  repeat (with_reducible first|exact BA|refine bA ?_|(refine bS ?_ (by omega))|refine bD ?_|refine bN ?_)
end Go.Proofs.Fit
