/- Part of a proof. -/
import Derived.Test.YtkkjobdfheidkaaGreatDoorQ16
import Derived.RangeFuncNested
import Derived.OwnWalkIn
import Derived.Sort.LoopGhostIn
import Derived.TacticsInMore
import Derived.Laws.EntriesVeiled
import Derived.Shelf.Abstract
set_option maxRecDepth 100000
set_option maxHeartbeats 6400000
set_option linter.unusedVariables false
set_option linter.unusedSimpArgs false
open Array renaming getElem?_eq_some_iff→Za,replicate_succ→Zau,replicate_zero→Zat,replicate→Yd,getElem?_eq_getElem→ZB,getElem?_append_left→zg
open Go renaming World→Zb,Value→Zc,TypeId→Zs,Program→Zp,callFunc→Zz,info_parts→YC,wpList_append_own→ZaV,wpAnyIn_ready→z8,bodyPost_ret→ZX,undef→Ze,run_underlying→YS
open Go.AllReadyIn renaming cons→zn,nil→zN
open Go.Builtin renaming zeroCells→Zr
open Go.Instr renaming checkKey→Yt,keyThatStays→zX,sameBits→zs,findAsking→zL,findKey→YX,findNow→Zaz,lookup→ZaR,mapUpdate→ZaJ
open Go.Lib renaming run_eql_slice_nil→ZaH,hid→Zh
open Go.Op renaming equal→Y0
open Go.Proofs.Tryz renaming underlying22→ZaF,underlying27→Yn
open Go.Question renaming appendCap→zu
open Go.Result renaming andThen→zB,andThen_ok→Zaj
open Go.RowKit renaming Below→Zm
open Go.RowKit.Below renaming heap_alloc→zx,refl→Zi
open Go.Sem renaming run_bind→za
open Go.Value renaming int→ZT,oneCell'→ZaL
open Go.World renaming putObj_heap_other→zq,size_alloc→ZG,putObj_heap_same→Zai,ownsRow_made→Yq,alloc→ZaW,ownsRow_nil→Yz,cell?→zJ
open List renaming length_append→ZV,length_cons→zK,length_nil→zY,append_assoc→ZaQ,range→ZaB,getElem?_eq_some_iff→Zo,drop_eq_getElem_cons→Z4,nil_append→zE,drop_eq_nil_iff→zf,eq_nil_of_length_eq_zero→Y8,size_toArray→ZaZ,push_toArray→Za0,append_toArray→ZaG,cons_append→ZaC,getElem?_toArray→ZY,getElem?_map→ZaT,getElem?_append_left→zD,mem_cons_self→zF,mem_cons_of_mem→zr,mem_of_getElem?→Yh,mem_append→Zax,mem_singleton→YJ,getElem_of_mem→Zaq
open Nat renaming le_refl→Zj,le_trans→Zx,lt_of_lt_of_le→Zl,zero_le→Zt,zero_add→Ym,reduceAdd→Zak
namespace Go.Proofs.Fit
open Go Go.RowKit
structure Am (T:Nat→Prop)(w W:Zb):Prop where
 os:W.os=w.os
 tape:W.tape=w.tape
 output:W.output=w.output
 size:w.heap.size≤W.heap.size
 block:∀k,k<w.heap.size→¬T k→W.heap[k]?=w.heap[k]?
section
variable {T U:Nat→Prop}{w W W':Zb}
theorem Am.refl (T:Nat→Prop)(w:Zb):Am T w w:=⟨rfl,rfl,rfl,Zj _,fun _ _ _=>rfl⟩
theorem Am.trans (h:Am T w W)(k:Am T W W'):Am T w W':=
 ⟨k.os.trans h.os,k.tape.trans h.tape,k.output.trans h.output,Zx h.size k.size,fun i hi ht=>(k.block i (Zl hi h.size) ht).trans (h.block i hi ht)⟩
theorem Am.mono (h:Am T w W)(hs:∀k,T k→U k):Am U w W:=⟨h.os,h.tape,h.output,h.size,fun k hk hu=>h.block k hk fun x=>hu (hs k x)⟩
theorem Am.Eu {n:Nat}(h:Zm n w W)(hT:∀x,n≤x→x<w.heap.size→T x):Am T w W:=
 ⟨h.os,h.tape,h.output,h.size,fun x hx ht=>h.block x (Nat.lt_of_not_le fun y=>ht (hT x y hx))⟩
theorem Am.later (h:Zm w.heap.size w W):Am T w W:=Am.Eu h fun k h1 h2=>absurd h2 (Nat.not_lt_of_le h1)
theorem Am.below {n:Nat}(h:Am T w W)(hT:∀k,T k→n≤k)(hn:n≤w.heap.size):Zm n w W:=
 ⟨h.os,h.tape,h.output,h.size,fun k hk=>h.block k (Zl hk hn) fun x=>absurd (hT k x) (Nat.not_le_of_lt hk)⟩
theorem Am.put {l:Nat}{o:Obj}(h:Am T w W)(hl:T l):Am T w (W.putObj l o):=
 ⟨h.os,h.tape,h.output,by simpa using h.size,fun k hk ht=>(zq fun e=>ht (by rw[e];exact hl)).trans (h.block k hk ht)⟩
theorem Am.set {q i:Nat}{v:Zc}(h:Am T w W)(hq:T q):Am T w (W.setCell ⟨q,i,none⟩ v):=
 ⟨h.os,h.tape,h.output,by simpa using h.size,fun k hk ht=>(AW (fun e=>ht (by rw[e];exact hq)) _).trans (h.block k hk ht)⟩
theorem Am.pV (h:Am T w W)(hB:Zm W.heap.size W W'):Am T w W':=h.trans (Am.later hB)
theorem Am.same {S:Nat→Prop}(h:Am T w W)(hS:∀b,S b→¬T b):CC S w W:=fun b hb hl=>h.block b hl (hS b hb)
end
def ND (e:Zs)(n:Nat)(w:Zb)(b:Nat):Prop:=Cy n w b∧∃cs,w.heap[b]?=some (.cells cs e (0,0))
def J1 (n m k:Nat):Prop:=n≤k∧k<n+m
def afP (P:Zp)(g:Nat)(lb:Array Zc)(m:Nat)(K:Nat→Prop)(xs:List (List Int))(w0:Zb):Prop:=
 ∀(l:Nat) (J:List (List Int)→Zb→Prop) (W:Zb),w0.heap.size≤W.heap.size→(∀k,K k→k<w0.heap.size→W.heap[k]?=w0.heap[k]?)→
  (∀A,Zm W.heap.size W A→W.heap.size+m≤A.heap.size→J [] A)→
  (∀pre A B,J pre A→Am (J1 W.heap.size m) A B→J pre B)→
  (∀pre x u A0 A,J pre A0→Am (J1 W.heap.size m) A0 A→W.heap.size+m≤A0.heap.size→pre.length<xs.length→SI (ND 3 A0.heap.size A) A u x→
   YieldAt Fence.wide 0 P l #[u] A fun e A'=>e=.returned (.bool true)∧J (pre++ [x]) A'∧Am (fun k=>¬J1 W.heap.size m k∧¬K k) A A')→
  CallsIn Fence.wide 0 P g (#[.func (.yield l) #[] #[]]++lb) W fun e A=>(∃v,e=.returned v)∧J xs A
theorem jO {P:Zp}{g:Operand}{p:Tmp}{assign body:Code}{Q:Exit→Act→Zb→Prop}{a:Act}{w w0:Zb}{gf m:Nat}{lb:Array Zc}{K:Nat→Prop}{xs:List (List Int)}
  (hg:a.eval g=.func (.func gf) #[] lb) (eg:∀args w,(Zz gf args).run P w=.ok (.enter gf args) w)
  (sI:afP P gf lb m K xs w0) (hw:w0.heap.size≤w.heap.size) (hK:∀k,K k→k<w0.heap.size∧w.heap[k]?=w0.heap[k]?)
  (I:List (List Int)→Zb→Prop) (h0:∀A,Zm w.heap.size w A→w.heap.size+(m+2)≤A.heap.size→I [] A)
  (hI:∀pre A B,I pre A→Am (J1 w.heap.size (m+2)) A B→I pre B) (cu:Zc→Act)
  (sJ:∀(l:Nat) (u:Zc) (W:Zb) (K:Act→Zb→Prop),(∃ad n c,u=.slice ad n c)→K (cu u) W→assign.wpIn (Fence.wide.inRound l) 0 P (Exit.then K (fun _ _ _=>False)) {tmps:=((#[p]:Array Tmp).zip #[u]).foldl (fun t (p,v)=>t.setIfInBounds p v) a.tmps,defers:=[]} W)
  (afQ:∀(l:Nat) (pre:List (List Int)) (x:List Int) (u:Zc) (A0 A:Zb),I pre A0→Am (J1 w.heap.size (m+2)) A0 A→w.heap.size+(m+2)≤A0.heap.size→pre.length<xs.length→SI (ND 3 A0.heap.size A) A u x→
   body.wpIn (Fence.wide.inRound l) 0 P (fun e _ W'=>e=.normal∧I (pre++ [x]) W'∧Am (fun k=>¬J1 w.heap.size (m+2) k∧¬K k) A W') (cu u) A)
  (afR:∀A,I xs A→A.heap[w.heap.size]?=some (.deferred (some []))→Q .normal {a with defers:= {target:=.collected w.heap.size,args:= #[]}::a.defers} A):
  (Code.rangeFunc g #[p] assign body).wpIn Fence.wide 0 P Q a w:=by
 refine wpIn_rangeFunc ?_;intro fn Hp;obtain⟨rec,VN⟩:∃rec:LoopState→Option Code→Loop,rec=fun st pe=> {state:=st,pending:=pe,fn,tmps:=a.tmps,params:= #[p],assign,body,defers:=w.heap.size}:=⟨_,rfl⟩;obtain⟨W1,ko⟩:∃W1,(w.alloc (.deferred (some []))).alloc (.loop (rec .ready none))=W1:=⟨_,rfl⟩;have Tn:W1.heap[w.heap.size+1]?=some (.loop (rec .ready none)):=by
  rw[←ko];have:=World.alloc_heap_new (w.alloc (.deferred (some []))) (.loop (rec .ready none));rwa[ZG]at this
 have kq:W1.heap[w.heap.size]?=some (.deferred (some [])):=by
  rw[←ko];exact(zx _ _ _ (by simp)).trans (World.alloc_heap_new w _)
 have Bw:Zm w.heap.size w W1:=by rw[←ko];exact((Zi _ w).alloc (Zj _) _).alloc (by simp) _
 have El:W1.heap.size=w.heap.size+2:=by rw[←ko];simp
 have aaf:∀k,J1 W1.heap.size m k→J1 w.heap.size (m+2) k:=fun k h=>by unfold J1 at*;omega
 refine⟨w.heap.size+1,[{target:=.collected w.heap.size,args:= #[]}],W1, {target:=.fn (.func gf) lb,args:= #[.func (.yield (w.heap.size+1)) #[] #[]]},W1,gf,
  #[.func (.yield (w.heap.size+1)) #[] #[]]++lb,W1,?_,?_,?_,?_,(fun h=>by cases h),?_⟩
 ·rw[←ko,VN];exact run_enterLoop_outer _ _ _ _ _
 ·simp only[resolve,hg]
  simp[go_sem]
 ·intro f' _;trivial
 ·simp[invoke,go_sem,eg]
 ·refine(sI (w.heap.size+1) (fun pre A=>I pre A∧A.heap[w.heap.size+1]?=some (.loop (rec .ready none))∧A.heap[w.heap.size]?=some (.deferred (some []))) W1 (by omega)
   (fun k hk _=>(Bw.block k (Zl (hK k hk).1 hw)).trans (hK k hk).2)
   (fun A hA hs=>⟨h0 A (Bw.trans (hA.mono Bw.size)) (by omega),(hA.block _ (by omega)).trans Tn,(hA.block _ (by omega)).trans kq⟩)
   (fun pre A B hj hT=>⟨hI pre A B hj.1 (hT.mono aaf),(hT.block _ (Za.1 hj.2.1).1 (by unfold J1;omega)).trans hj.2.1,(hT.block _ (Za.1 hj.2.2).1 (by unfold J1;omega)).trans hj.2.2⟩)
   ?_).mono ?_
  ·rintro pre x u A0 A ⟨hi,iq,kA⟩ hT hz hlen hu
   have hl:A.heap[w.heap.size+1]?=some (.loop (rec .ready none)):=(hT.block _ (Za.1 iq).1 (by unfold J1;omega)).trans iq;have hk:A.heap[w.heap.size]?=some (.deferred (some [])):=(hT.block _ (Za.1 kA).1 (by unfold J1;omega)).trans kA;have Az:w.heap.size+1<A.heap.size:=(Za.1 hl).1;have auj:w.heap.size+1<A0.heap.size:=(Za.1 iq).1;have hy:=run_yield (P:=P) (args:= #[u]) hl (by rw[VN];rfl);rw[VN]at hy;refine⟨fn,_,assign,body,hy,roundIn_of_wpIn trivial (sJ _ u A _ ?_ ⟨_,run_beginRound hl (by rw[VN]),?_⟩)⟩
   ·obtain⟨ad,c,rfl,_⟩:=hu.val
    exact⟨ad,_,c,rfl⟩
   obtain⟨A2,XN⟩:∃A2,A2=A.putObj (w.heap.size+1) (.loop {rec .ready none with state:=.busy}):=⟨_,rfl⟩;rw[←XN];have Me:A2.heap[w.heap.size+1]?=some (.loop {rec .ready none with state:=.busy}):=by rw[XN];exact Zai Az
   have hk2:A2.heap[w.heap.size]?=some (.deferred (some [])):=by rw[XN];exact(zq (by omega)).trans hk
   have Fa:Am (J1 w.heap.size (m+2)) A0 A2:=by rw[XN];exact(hT.mono aaf).put (by unfold J1;omega)
   have EN:A2.heap.size=A.heap.size:=by rw[XN];simp
   have ET:∀k,k≠w.heap.size+1→A2.heap[k]?=A.heap[k]? :=fun k h=>by rw[XN];exact zq h
   have ht2:A2.os=A.os∧A2.tape=A.tape∧A2.output=A.output:=by rw[XN];exact⟨rfl,rfl,rfl⟩
   have KB:SI (ND 3 A0.heap.size A2) A2 u x:=Sl.imp (hu.Au (fun b hb _=>ET b (by have:=hb.1.1;omega))) (fun b hb=>⟨⟨hb.1.1,by rw[EN];exact hb.1.2⟩,by rw[ET b (by have:=hb.1.1;omega)];exact hb.2⟩) (fun _ _ x=>x);clear XN;refine wpIn_mono (afQ _ pre x u A0 A2 hi Fa (by omega) hlen KB) ?_;rintro e a3 W3 ⟨rfl,hi3,Su⟩;have QA:W3.heap[w.heap.size+1]?=some (.loop {rec .ready none with state:=.busy}):=(Su.block _ (by omega) (fun h=>h.1 (by unfold J1;omega))).trans Me;have M_:W3.heap[w.heap.size]?=some (.deferred (some [])):=(Su.block _ (by omega) (fun h=>h.1 (by unfold J1;omega))).trans hk2;have Rd:=run_endRound (P:=P) none QA;refine⟨_,_,Rd,rfl,⟨hI _ _ _ hi3 ((Am.refl _ _).put (by unfold J1;omega)),?_,?_⟩,?_⟩
   ·rw[Zai (Za.1 QA).1,VN];rfl
   ·exact(zq (by omega)).trans M_
   ·refine⟨Su.os.trans ht2.1,Su.tape.trans ht2.2.1,Su.output.trans ht2.2.2,by have:=Su.size;simp;omega,fun k hk hn=>?_⟩
    by_cases U3:k=w.heap.size+1
    ·exfalso
     refine hn ⟨by unfold J1;omega,fun hKk=>?_⟩;have:=(hK k hKk).1;omega
    ·rw[zq U3]
     by_cases hm:J1 w.heap.size (m+2) k
     ·rw[Su.block k (by omega) (fun h=>h.1 hm),ET k U3]
     ·rw[Su.block k (by omega) (fun h=>hn ⟨fun h'=>hm (aaf k h'),h.2⟩),ET k U3]
  ·rintro e W2 ⟨⟨v,rfl⟩,hi,hl,hk⟩
   refine⟨none,_,by have:=run_endLoop (P:=P) hl (by rw[VN];simp);rw[VN]at this;exact this,?_⟩;exact afR _ (hI _ _ _ hi ((Am.refl _ _).put (by unfold J1;omega))) ((zq (by omega)).trans hk)
attribute [local go_sem] Oper.semAt_some
structure IT (S:Nat→Prop)(n0 l bg:Nat)(v1 v2 v3 v4 v5:Zc)(ab:Nat→Nat)(c:Aw)(p:List Int)(A:Zb):Prop where
 yb:A.heap[n0]?=some (.cells #[.func (.yield l) #[] #[]] 65 (0,0))
 row:∃tl,(p++tl).length=c.Aa.length∧A.heap[n0+1]?=some (.cells ((p++tl).map (ZT .i64)).toArray 3 (0,0))
 sb:A.heap[n0+2]?=some (.cells #[.slice (some ⟨n0+1,0,none⟩) c.Aa.length c.Aa.length] 22 (0,0))
 fb:A.heap[n0+3]?=some (.cells #[.func (.func 154) #[] #[.pointer (some ⟨n0+2,0,none⟩),.pointer (some ⟨n0,0,none⟩),.pointer (some ⟨bg,0,none⟩),.pointer (some ⟨n0+3,0,none⟩)]] 129 (0,0))
 gb:A.heap[bg]?=some (.cells (Ba v1 v2 v3 v4 v5 ab) 112 (0,0))
 rc:RC S A v1 v2 v3 v4 v5 c
section
variable {S:Nat→Prop}{n0 l bg:Nat}{v1 v2 v3 v4 v5:Zc}{ab:Nat→Nat}{c:Aw}{p:List Int}{A B:Zb}
theorem IT.Au (h:IT S n0 l bg v1 v2 v3 v4 v5 ab c p A)(hT:Am (fun k=>¬J1 n0 4 k∧¬(S k∨k=bg)) A B):IT S n0 l bg v1 v2 v3 v4 v5 ab c p B:=by
 have hm:∀k x,k<4→A.heap[n0+k]?=some x→B.heap[n0+k]?=some x:=fun k x hk h=>(hT.block _ (Za.1 h).1 (fun q=>q.1 (by unfold J1;omega))).trans h;obtain⟨tl,h1,h2⟩:=h.row;exact⟨hm 0 _ (by omega) h.yb,⟨tl,h1,hm 1 _ (by omega) h2⟩,hm 2 _ (by omega) h.sb,hm 3 _ (by omega) h.fb,(hT.block _ (Za.1 h.gb).1 (fun q=>q.2 (.inr rfl))).trans h.gb,h.rc.Au (hT.same fun b hb q=>q.2 (.inl hb))⟩
theorem IT.step (h:IT S n0 l bg v1 v2 v3 v4 v5 ab c p A)(hb:∀b,S b∨b=bg→b<n0)(hp:p.length<c.Aa.length)(x:Int):IT S n0 l bg v1 v2 v3 v4 v5 ab c (p++ [x]) (A.setCell ⟨n0+1,p.length,none⟩ (.int .i64 x)):=by
 have hm:∀k y,k≠n0+1→A.heap[k]?=some y→(A.setCell ⟨n0+1,p.length,none⟩ (.int .i64 x)).heap[k]?=some y:=fun k y hk h=>(AW hk _).trans h;obtain⟨tl,h1,h2⟩:=h.row;refine⟨hm _ _ (by omega) h.yb,⟨tl.drop 1,?_,?_⟩,hm _ _ (by omega) h.sb,hm _ _ (by omega) h.fb,hm _ _ (by have:=hb bg (.inr rfl);omega) h.gb,h.rc.Au fun b hS _=>AW (by have:=hb b (.inl hS);omega) _⟩
 ·simp only[ZV,zK,zY,List.length_drop]at h1⊢
  omega
 ·have h3:=A5 (i:=p.length) h2 (.int .i64 x)
  rw[h3];cases tl with
  |nil=>simp at h1;omega
  |cons y r=>simp
theorem IT.cut {q:List Int}(h:IT S n0 l bg v1 v2 v3 v4 v5 ab c (p++q) A):IT S n0 l bg v1 v2 v3 v4 v5 ab c p A:=by
 obtain⟨tl,h1,h2⟩:=h.row;exact⟨h.yb,⟨q++tl,by rw[←ZaQ];exact h1,by rw[←ZaQ];exact h2⟩,h.sb,h.fb,h.gb,h.rc⟩
end
def VQ (lo:Int)(rest:List Ax)(q:Nat):List (List Int):=((ZaB q).map fun k:Nat=>lo+(k:Int)).flatMap fun n=>(Mp rest).map (n:: ·)
theorem OC (lo:Int)(rest:List Ax)(q:Nat):VQ lo rest (q+1)=VQ lo rest q++(Mp rest).map ((lo+(q:Int)):: ·):=by
 unfold VQ;rw[List.range_succ,List.map_append,List.flatMap_append];simp
theorem jP {l:List Ax}{i:Nat}(h:i<l.length):l.drop i=Aj l i::l.drop (i+1):=by
 obtain⟨hk,e⟩:=Zo.1 (Dk h);rw[Z4 hk,e]
theorem sK {lo:Int}{rest:List Ax}{q m:Nat}(h:q≤m):(VQ lo rest q).length≤(VQ lo rest m).length:=by
 induction h with
 |refl=>exact Zj _
 |step _ ih=>rw[OC,ZV];omega
def aag (n0 l:Nat)(K:Nat→Prop)(J:List (List Int)→Zb→Prop)(N:Nat):Prop:=
 ∀pre x u A0 A,J pre A0→Am (J1 n0 4) A0 A→n0+4≤A0.heap.size→pre.length<N→SI (ND 3 A0.heap.size A) A u x→
  YieldAt Fence.wide 0 Lp l #[u] A fun e A'=>e=.returned (.bool true)∧J (pre++ [x]) A'∧Am (fun k=>¬J1 n0 4 k∧¬K k) A A'
theorem Mr {α:Type}{R:Zb→List Zc→α→Prop}{k:Nat}{w:Zb}{v:Zc}{l:List α}{base:Nat}{e:Zs}{xs:List Zc}(hk:0<k)(h:w.ownsRow base e k v l.length xs)(hR:∀i x,l[i]?=some x→R w ((xs.drop (i*k)).take k) x):Sl (ND e base w) R k w v l:=by
 obtain⟨a,c,h1,h2,h3,h4⟩:=Ov hk h hR;refine⟨a,c,h1,h2,h3,fun i x hx=>?_⟩;obtain⟨b,o,cs,g1,g2,g3,g4,g5⟩:=h4 i x hx;refine⟨b,o,cs,g1,⟨g2,?_⟩,g3,g4,g5⟩;rcases h.2 with⟨_,h0⟩|⟨g,cap,cur,hv,_,hg,_⟩
 ·have:=(Zo.1 hx).1
  omega
 ·rw[hv]at h1
  cases h1;cases g1;exact⟨_,hg⟩
theorem vE {S:Nat→Prop}{w:Zb}{v:Zc}{l:List Int}(h:Sl S Ri 1 w v l)(hlen:l.length≤1000):Calls Lp 106 #[v] w fun e w'=>∃v',e=.returned v'∧Zm w.heap.size w w'∧Sl (ND 3 w.heap.size w') Ri 1 w' v' l:=by
 obtain⟨a,c,rfl,l1,m1⟩:=h.val;obtain⟨i0,hi,Fg,El,EN⟩:=YC Lu;have hu:=CM ZaF;have q22:∀(w:Zb) (a:Option Addr) (n c n' c':Nat),(binOp .eql 22 (.slice a n c) (.slice none n' c')).run Lp w=.ok (.bool a.isNone) w:=fun w a n c n' c'=>ZaH w _ _ a n c n' c' hu;cases a with
 |none=>
  have hl:l=[]:=by
   cases l with
   |nil=>rfl
   |cons x r=>
    obtain⟨a',c',h1,_,_,h4⟩:=h;cases h1;obtain⟨b,o,cs,e,_⟩:=h4 0 x rfl;cases e
  subst hl;go_enter Lp.func106,rV;go_wp2;go_ret;exact⟨_,rfl,Zi _ _,none,0,rfl,Zj _,Zt _,fun i x hx=>by cases hx⟩
 |some ad=>
  obtain⟨news,hn,hR,hc⟩:=Sl.row h (by decide) ad rfl;have h1:=row_one (by decide) hn hR nR;have HC:=Zh hc;have HR:=Zh hR;clear hc hR;go_enter Lp.func106,rV;go_wp2_with (at_builtin;refine ZaV _ rfl _ _ 22 rfl w.heap.size 3 i0 (.int .i64 0) 1 8 hu (D3 hi) Fg El EN rfl (by decide) _ 0 [] rfl (Yq w #[] 0 (Zj _) (Zt _) rfl) ad l.length c news rfl hn (fun j u hj=>ca (HC.out j u hj) _) h1 (by unfold maxLen;omega) (by omega) (by simp) ?_;intro v' w1 Be AG Fi);have hB:Zm w.heap.size w w1:=Br (bA (Zi _ _)) AG (fun k hk=>by cases hk;exact Zj _) (by simp);have U2:Sl (ND 3 w.heap.size w1) Ri 1 w1 v' l:=Mr (by decide) (by rw[Ym,zE]at Be;exact Be) (fun i x hx=>HR.out i x hx);clear Be AG Fi;go_ret;exact⟨_,rfl,hB,U2⟩
theorem amq {S:Nat→Prop}{n0 l bg N:Nat}{v1 v2 v3 v4 v5:Zc}{ab:Nat→Nat}{c:Aw}{J:List (List Int)→Zb→Prop}(hJ:∀pre A B,J pre A→Am (J1 n0 4) A B→J pre B)
  (hY:aag n0 l (fun k=>S k∨k=bg) J N) (hb:∀b,S b∨b=bg→b<n0) (Jm:c.Aa.length≤3) (B3:∀i,i<c.Aa.length→-2≤(Aj c.Aa i).low∧(Aj c.Aa i).high≤2):
  ∀(k i:Nat) (p:List Int) (pre:List (List Int)) (A:Zb),i+k=c.Aa.length→p.length=i→IT S n0 l bg v1 v2 v3 v4 v5 ab c p A→J pre A→n0+4≤A.heap.size→pre.length+(Mp (c.Aa.drop i)).length≤N→
   CallsIn Fence.wide 0 Lp 154 #[.int .i64 i,.pointer (some ⟨n0+2,0,none⟩),.pointer (some ⟨n0,0,none⟩),.pointer (some ⟨bg,0,none⟩),.pointer (some ⟨n0+3,0,none⟩)] A fun e A'=>
    e=.returned (.bool true)∧IT S n0 l bg v1 v2 v3 v4 v5 ab c p A'∧J (pre++(Mp (c.Aa.drop i)).map (p++ ·)) A'∧n0+4≤A'.heap.size:=by
 intro k
 induction k with
 |zero=>
  intro i p pre A su hp hI hj hz hN;have hi:i=c.Aa.length:=by omega
  subst hi;have e1:Mp (c.Aa.drop c.Aa.length)=[[]]:=by rw[zf.2 (Zj _)];rfl
  rw[e1]at hN⊢;simp only[List.map_cons,List.map_nil,List.append_nil,zK,zY]at hN⊢;obtain⟨tl,hl,Ds⟩:=hI.row;obtain rfl:tl=[]:=Y8 (by rw[ZV]at hl;omega);rw[List.append_nil]at Ds hl;have hsi:SI (fun b=>b=n0+1) A (.slice (some ⟨n0+1,0,none⟩) p.length p.length) p:=Mn p Ds rfl (by unfold maxLen;omega);rw[hp]at hsi;have k1:=ch (i:=0) hI.sb (v:=.slice (some ⟨n0+1,0,none⟩) c.Aa.length c.Aa.length) rfl;have k2:=ch (i:=0) hI.yb (v:=.func (.yield l) #[] #[]) rfl;have fB:=Zh (fun B (hB:Zm A.heap.size A B)=>callsIn_wide (n:=0).2 (vE (w:=B) (hsi.later hB) (by omega)));have hlq:(c.Aa.length:Int)=(c.Aa.length:Int):=rfl;refine callsIn_of_wp Lp.func154 rfl trivial ?_ rfl;simp only[af9,ZaZ,zK,zY,Zak,Nat.reduceSub,Zau,Zat,Za0,ZaG,zE,ZaC]
  gi_wp2
  refine wpIn_region_any (by kernel_rfl) ?_;change wpAnyIn _ _ _ _ _ _ _ _ _ A.drew;refine z8 (rs:=[0,1]) (by kernel_rfl) (by simp) ?_;refine zn rfl (fun K hK=>?_) (zn rfl (fun K hK=>?_) zN)
  ·go_simp
   refine hK _ _ ?_;clear hK;refine z8 (rs:=[1]) (by kernel_rfl) (by simp) ?_;refine zn rfl (fun K hK=>?_) zN
   go_simp
   refine hK _ _ ?_;clear hK;refine z8 (rs:=[2]) (by kernel_rfl) (by simp) ?_;refine zn rfl (fun K hK=>?_) zN
   go_simp
   refine⟨trivial,rfl,?_⟩;refine(fB.out A.drew (Zi _ _).drew).mono ?_;rintro e w1 ⟨u,rfl,hB,hu⟩;refine hK _ _ ?_;clear hK;have Bw:Zm A.heap.size A w1:=(Zi _ _).drew.trans (hB.mono (Zj _));obtain⟨fn,tmps,assign,body,hy,hR⟩:=hY pre p u A w1 hj (Am.later Bw) hz (by omega) hu;refine z8 (rs:=[3]) (by kernel_rfl) (by simp) ?_;refine zn rfl (fun K hK=>?_) zN
   go_simp
   refine⟨rfl,?_⟩;refine hR.mono ?_;rintro e w2 ⟨rfl,vF,Fa⟩;refine hK _ _ ?_;clear hK hR hy;refine z8 (rs:=[4]) (by kernel_rfl) (by simp) ?_;refine zn rfl (fun K hK=>?_) zN
   go_simp
   refine hK _ _ ?_;clear hK;refine wpAnyIn_done (by kernel_rfl) ?_ _;have sL:=(hI.Au (Am.later Bw)).Au Fa;have EN:n0+4≤w2.heap.size:=Zx (Zx hz Bw.size) Fa.size;clear Fa Bw hu
   gi_wp2
   refine ZX (results_tmp rfl _ _ _) rfl ?_;exact⟨rfl,sL,vF,EN⟩
  ·go_simp
   refine hK _ _ ?_;clear hK;refine z8 (rs:=[0,2]) (by kernel_rfl) (by simp) ?_;refine zn rfl (fun K hK=>?_) (zn rfl (fun K hK=>?_) zN)
   ·go_simp
    refine hK _ _ ?_;clear hK;refine z8 (rs:=[2]) (by kernel_rfl) (by simp) ?_;refine zn rfl (fun K hK=>?_) zN
    go_simp
    refine⟨trivial,rfl,?_⟩;refine(fB.out A.drew (Zi _ _).drew).mono ?_;rintro e w1 ⟨u,rfl,hB,hu⟩;refine hK _ _ ?_;clear hK;have Bw:Zm A.heap.size A w1:=(Zi _ _).drew.trans (hB.mono (Zj _));obtain⟨fn,tmps,assign,body,hy,hR⟩:=hY pre p u A w1 hj (Am.later Bw) hz (by omega) hu;refine z8 (rs:=[3]) (by kernel_rfl) (by simp) ?_;refine zn rfl (fun K hK=>?_) zN
    go_simp
    refine⟨rfl,?_⟩;refine hR.mono ?_;rintro e w2 ⟨rfl,vF,Fa⟩;refine hK _ _ ?_;clear hK hR hy;refine z8 (rs:=[4]) (by kernel_rfl) (by simp) ?_;refine zn rfl (fun K hK=>?_) zN
    go_simp
    refine hK _ _ ?_;clear hK;refine wpAnyIn_done (by kernel_rfl) ?_ _;have sL:=(hI.Au (Am.later Bw)).Au Fa;have EN:n0+4≤w2.heap.size:=Zx (Zx hz Bw.size) Fa.size;clear Fa Bw hu
    gi_wp2
    refine ZX (results_tmp rfl _ _ _) rfl ?_;exact⟨rfl,sL,vF,EN⟩
   ·go_simp
    refine⟨trivial,rfl,?_⟩;refine(fB.out A.drew (Zi _ _).drew).mono ?_;rintro e w1 ⟨u,rfl,hB,hu⟩;refine hK _ _ ?_;clear hK;have Bw:Zm A.heap.size A w1:=(Zi _ _).drew.trans (hB.mono (Zj _));have k3:=(Bw.cell (p:=⟨n0,0,none⟩) (by show n0<_;omega)).trans k2;refine z8 (rs:=[0]) (by kernel_rfl) (by simp) ?_;refine zn rfl (fun K hK=>?_) zN
    go_simp
    refine hK _ _ ?_;clear hK;clear k3;obtain⟨fn,tmps,assign,body,hy,hR⟩:=hY pre p u A w1 hj (Am.later Bw) hz (by omega) hu;refine z8 (rs:=[3]) (by kernel_rfl) (by simp) ?_;refine zn rfl (fun K hK=>?_) zN
    go_simp
    refine⟨rfl,?_⟩;refine hR.mono ?_;rintro e w2 ⟨rfl,vF,Fa⟩;refine hK _ _ ?_;clear hK hR hy;refine z8 (rs:=[4]) (by kernel_rfl) (by simp) ?_;refine zn rfl (fun K hK=>?_) zN
    go_simp
    refine hK _ _ ?_;clear hK;refine wpAnyIn_done (by kernel_rfl) ?_ _;have sL:=(hI.Au (Am.later Bw)).Au Fa;have EN:n0+4≤w2.heap.size:=Zx (Zx hz Bw.size) Fa.size;clear Fa Bw hu
    gi_wp2
    refine ZX (results_tmp rfl _ _ _) rfl ?_;exact⟨rfl,sL,vF,EN⟩
 |succ k ih=>
  intro i p pre A su hp hI hj hz hN;have hin:i<c.Aa.length:=by omega
  have auk:(i:Int)<(c.Aa.length:Int):=by omega
  have BI:((i:Int)==(c.Aa.length:Int))=false:=by simp;omega
  have I3:=DN;obtain⟨PF,Ny⟩:=B3 i hin;obtain⟨m,hm⟩:∃m,m=((Aj c.Aa i).high+1 - (Aj c.Aa i).low).toNat:=⟨_,rfl⟩;have Fv:Mp (c.Aa.drop i)=VQ (Aj c.Aa i).low (c.Aa.drop (i+1)) m:=by rw[jP hin,hm];rfl
  rw[Fv]at hN⊢;obtain⟨lo,hlo⟩:∃lo,lo=(Aj c.Aa i).low:=⟨_,rfl⟩;obtain⟨hi,hhi⟩:∃hi,hi=(Aj c.Aa i).high:=⟨_,rfl⟩;rw[←hlo, ←hhi]at hm;rw[←hlo]at PF hN Fv⊢;rw[←hhi]at Ny;obtain⟨a4,c4,rfl,l4,m4⟩:=hI.rc.Aa.val;have RF:∀B,IT S n0 l bg v1 v2 v3 (.slice a4 c.Aa.length c4) v5 ab c p B→∃b o,a4=some ⟨b,o,none⟩∧B.cell? ⟨b,o+i*5,none⟩=some (.int .i64 lo)∧B.cell? ⟨b,o+i*5+1,none⟩=some (.int .i64 hi):=fun B h=>by
   obtain⟨b,o,_,_,e,_,x1,x2,_⟩:=h.rc.Aa.at_ hin;rw[hlo,hhi];exact⟨b,o,e,x1,x2⟩
  obtain⟨b,o,rfl,kl,kh⟩:=RF A hI;have k3:=ch (i:=3) hI.gb (v:=.slice (some ⟨b,o,none⟩) c.Aa.length c4) rfl;have k1:=ch (i:=0) hI.sb (v:=.slice (some ⟨n0+1,0,none⟩) c.Aa.length c.Aa.length) rfl;clear hlo hhi Fv;refine callsIn_of_wp Lp.func154 rfl trivial ?_ rfl;simp only[af9,ZaZ,zK,zY,Zak,Nat.reduceSub,Zau,Zat,Za0,ZaG,zE,ZaC]
  gi_wp2
  clear k1 k3 kl kh
  gi_loopg [7] m (fun g v wr=>∃q:Nat,q≤m∧g=m - q∧v=.int .i64 (lo+q)∧IT S n0 l bg v1 v2 v3 (.slice (some ⟨b,o,none⟩) c.Aa.length c4) v5 ab c p wr∧J (pre++(VQ lo (c.Aa.drop (i+1)) q).map (p++ ·)) wr∧n0+4≤wr.heap.size)
  case atStart=>exact⟨0,Zt _,rfl,by simp,hI,by simpa[VQ]using hj,hz⟩
  case round=>
   obtain⟨q,hq,rfl,rfl,vG,hjr,hzr⟩:=hrel;obtain⟨_,_,e,_,kh⟩:=RF wr vG;cases e;have k3:=ch (i:=3) vG.gb (v:=.slice (some ⟨b,o,none⟩) c.Aa.length c4) rfl;have k1:=ch (i:=0) vG.sb (v:=.slice (some ⟨n0+1,0,none⟩) c.Aa.length c.Aa.length) rfl;by_cases Az:q<m
   ·have hle:lo+(q:Int)≤hi:=by omega
    obtain⟨tl,hl,Ds⟩:=vG.row;have kr:wr.cell? ⟨n0+1,i,none⟩=some (.int .i64 (nth (p++tl) i)):=ch Ds (by rw[ZY,ZaT,Bo (by omega)];rfl);have fr:=cf (i:=i) Ds;have k4:=ch (i:=0) vG.fb (v:=.func (.func 154) #[] #[.pointer (some ⟨n0+2,0,none⟩),.pointer (some ⟨n0,0,none⟩),.pointer (some ⟨bg,0,none⟩),.pointer (some ⟨n0+3,0,none⟩)]) rfl;have sL:=vG.step hb (by omega) (lo+(q:Int));rw[hp]at sL;have vF:=hJ _ _ _ hjr ((Am.refl (J1 n0 4) wr).set (q:=n0+1) (i:=i) (v:=.int .i64 (lo+(q:Int))) (by unfold J1;omega));have hN2:(pre++(VQ lo (c.Aa.drop (i+1)) q).map (p++ ·)).length+(Mp (c.Aa.drop (i+1))).length≤N:=by
     have h1:=sK (lo:=lo) (rest:=c.Aa.drop (i+1)) (show q+1≤m from Az);rw[OC,ZV,List.length_map]at h1;rw[ZV,List.length_map];omega
    have H:=Zh (ih (i+1) (p++ [lo+(q:Int)]) _ _ (by omega) (by simp;omega) sL vF (by simpa using hzr) hN2);clear sL vF hN2 vG hjr Ds hl
    gi_wp2
    refine⟨trivial,rfl,?_⟩;refine CallsIn.mono H.out ?_;rintro e w1 ⟨rfl,hI3,hj3,Tc⟩
    gi_wp2
    gi_roundg (m - (q+1))
    case rel=>
     refine⟨q+1,Az,rfl,by go_num,hI3.cut,?_,Tc⟩;rw[OC,List.map_append, ←ZaQ];simpa[Function.comp_def,ZaQ]using hj3
    case measure=>omega
   ·have hle:hi<lo+(q:Int):=by omega
    have UB:q=m:=by omega
    subst UB
    gi_wp2
    refine ZX (results_tmp rfl _ _ _) rfl ?_;exact⟨rfl,vG,hjr,hzr⟩
attribute [local go_sem] Oper.semAt_some
theorem sM (n:Nat)(hn:n≤1000)(w:Zb):(Instr.makeSlice 22 (.int .i64 n) (.int .i64 n)).run Lp w=.ok (.slice (some ⟨w.heap.size,0,none⟩) n n) (w.alloc (.cells (List.replicate n (ZT .i64 0)).toArray 3)):=by
 obtain⟨i0,hi,Fg,El,EN⟩:=YC Lu;have h:=run_make (P:=Lp) w 22 3 i0 (.int .i64 0) (CM ZaF) (D3 hi) Fg .i64 .i64 n n (by omega) (Int.le_refl _) (by rw[EN];omega) (by omega);rw[h,El];simp only[Int.toNat_natCast]
 congr 3
 apply Array.ext
 ·simp[madeCells]
 ·intro i h1 h2
  simp[madeCells,Value.cells,Nat.mod_one]
theorem aah {S:Nat→Prop}{bg:Nat}{w0:Zb}{v1 v2 v3 v4 v5:Zc}{ab:Nat→Nat}{c:Aw}(hg:w0.heap[bg]?=some (.cells (Ba v1 v2 v3 v4 v5 ab) 112 (0,0)))(hR:RC S w0 v1 v2 v3 v4 v5 c)(hS:∀b,S b→b<w0.heap.size)
  (Jm:c.Aa.length≤3) (B3:∀i,i<c.Aa.length→-2≤(Aj c.Aa i).low∧(Aj c.Aa i).high≤2):afP Lp 153 #[.pointer (some ⟨bg,0,none⟩)] 4 (fun k=>S k∨k=bg) (KI c) w0:=by
 intro l J W hW hK hJ0 hJ hY;have hbg:=(Za.1 hg).1;have hb:∀b,S b∨b=bg→b<W.heap.size:=fun b h=>by
  rcases h with h|rfl
  ·exact Zl (hS b h) hW
  ·exact Zl hbg hW
 have hgW:=(hK bg (.inr rfl) hbg).trans hg;have hRW:RC S W v1 v2 v3 v4 v5 c:=hR.Au fun b h1 h2=>hK b (.inl h1) h2;obtain⟨a4,c4,rfl,l4,m4⟩:=hRW.Aa.val;have I3:=DN;have k3:=ch (i:=3) hgW (v:=.slice a4 c.Aa.length c4) rfl;have ams:=Zh (fun k i p pre A=>amq (S:=S) (n0:=W.heap.size) (l:=l) (bg:=bg) (N:=(KI c).length) (v1:=v1) (v2:=v2) (v3:=v3) (v4:=.slice a4 c.Aa.length c4) (v5:=v5) (ab:=ab) (c:=c) (J:=J) hJ hY hb Jm B3 k i p pre A);have hmk:=sM c.Aa.length (by omega);refine callsIn_of_wp Lp.func153 rfl trivial ?_ rfl;show Code.wpIn _ _ _ _ _ {tmps:= #[.func (.yield l) #[] #[],.pointer (some ⟨bg,0,none⟩)]++_,defers:=[]} _;simp only[alg,ZaZ,zK,zY,Zak,Nat.reduceSub,Zau,Zat,Za0,ZaG,zE,ZaC]
 gi_wp2
 refine⟨trivial,rfl,?_⟩;obtain⟨os,We⟩:∃os:List Obj,os=[.cells #[.func (.yield l) #[] #[]] 65,.cells (Yd c.Aa.length (.int .i64 0)) 3,.cells #[.slice (some ⟨W.heap.size+1,0,none⟩) c.Aa.length c.Aa.length] 22,.cells #[.func (.func 154) #[] #[.pointer (some ⟨W.heap.size+2,0,none⟩),.pointer (some ⟨W.heap.size,0,none⟩),.pointer (some ⟨bg,0,none⟩),.pointer (some ⟨W.heap.size+3,0,none⟩)]] 129]:=⟨_,rfl⟩;have hB:=Jw os W;have hA:=VO os W;have hZ:=Oz os W;have hL:os.length=4:=by rw[We];rfl
 have hA0:=(hA 0 (by omega)).trans (show os[0]?=some (.cells #[.func (.yield l) #[] #[]] 65) by rw[We];rfl);have mW:=(hA 1 (by omega)).trans (show os[1]?=some (.cells (Yd c.Aa.length (.int .i64 0)) 3) by rw[We];rfl);have XN:=(hA 2 (by omega)).trans (show os[2]?=some (.cells #[.slice (some ⟨W.heap.size+1,0,none⟩) c.Aa.length c.Aa.length] 22) by rw[We];rfl);have uU:=(hA 3 (by omega)).trans (show os[3]?=some (.cells #[.func (.func 154) #[] #[.pointer (some ⟨W.heap.size+2,0,none⟩),.pointer (some ⟨W.heap.size,0,none⟩),.pointer (some ⟨bg,0,none⟩),.pointer (some ⟨W.heap.size+3,0,none⟩)]] 129) by rw[We];rfl);obtain⟨W4,Et⟩:∃W4,W4=os.foldl ZaW W:=⟨_,rfl⟩;rw[←Et]at hB hZ hA0 mW XN uU;rw[hL]at hZ;rw[We]at Et;change W4=(((W.alloc _).alloc _).alloc _).alloc _ at Et;change CallsIn _ _ _ _ _ ((((W.alloc _).alloc _).alloc _).alloc _) _;rw[←Et];clear Et hA We hL;have hIT:IT S W.heap.size l bg v1 v2 v3 (.slice a4 c.Aa.length c4) v5 ab c [] W4:=
  ⟨hA0,⟨List.replicate c.Aa.length 0,by simp,by rw[mW];simp⟩,XN,uU,(hB.block _ (hb bg (.inr rfl))).trans hgW,hRW.Au fun b h _=>hB.block b (hb b (.inl h))⟩
 have hJ4:=hJ0 W4 hB (by omega);refine(ams.out c.Aa.length 0 [] [] W4 (by omega) rfl hIT hJ4 (by omega) (by simp[KI])).mono ?_;rintro e W5 ⟨rfl,_,hJ5,_⟩
 gi_wp2
 go_end0
 refine⟨⟨_,rfl⟩,?_⟩;simpa[KI]using hJ5
theorem amt (xs:Array Zc)(hx:xs.size=8)(h1:∀x∈xs.toList,x.oneCell'=true)(w:Zb):Calls Lp 103 #[.agg xs] w fun e w'=>e=.returned (.func (.func 153) #[] #[.pointer (some ⟨w.heap.size,0,none⟩)])∧w'=w.alloc (.cells xs 112):=by
 go_enter Lp.func103,akY;go_wp2;go_ret;exact⟨rfl,rfl⟩
attribute [local go_sem] Oper.semAt_some
structure AQ (w:Zb)(base:Nat)(pre:List (List Int))(A:Zb):Prop where
 below:Zm w.heap.size w A
 size:base≤A.heap.size
 box:∃v vals,A.heap[w.heap.size]?=some (.cells #[v] 27 (0,0))∧A.ownsRow base 22 1 v pre.length vals∧∀(i:Nat) (x:List Int),pre[i]?=some x→∃u,vals[i]?=some u∧SI (ND 3 base A) A u x
theorem I0 {e:Zs}{base:Nat}{A B:Zb}{T:Nat→Prop}(hT:Am T A B)(hx:∀b,ND e base A b→¬T b){u:Zc}{x:List Int}(h:SI (ND e base A) A u x):SI (ND e base B) B u x:=
 Sl.imp (h.Au (hT.same hx)) (fun b hb=>⟨⟨hb.1.1,Zl hb.1.2 hT.size⟩,by rw[hT.block b hb.1.2 (hx b hb)];exact hb.2⟩) (fun _ _ x=>x)
theorem DF {e:Zs}{k n base:Nat}{A B:Zb}{v:Zc}{xs:List Zc}{T:Nat→Prop}(hT:Am T A B)(hx:∀b,base≤b→¬T b)(h:A.ownsRow base e k v n xs):B.ownsRow base e k v n xs:=by
 refine⟨h.1,?_⟩;rcases h.2 with h1|⟨g,cap,cur,h1,h2,h3,h4⟩
 ·exact .inl h1
 ·exact .inr ⟨g,cap,cur,h1,h2,(hT.block g (Za.1 h3).1 (hx g h2)).trans h3,h4⟩
theorem Am.grown {T:Nat→Prop}{A B:Zb}{row:Option Nat}(h:A.grownBy B row)(hr:∀k,row=some k→T k):Am T A B:=
 ⟨h.os,h.tape,h.output,h.size,fun k hk ht=>h.block k hk fun e=>ht (hr k e.symm)⟩
theorem AQ.Du {w:Zb}{base n m:Nat}{pre:List (List Int)}{A B:Zb}(h:AQ w base pre A)(hn:w.heap.size<n)(hb:base=n+m)(hT:Am (J1 n m) A B):AQ w base pre B:=by
 have hx:∀b,base≤b→¬J1 n m b:=fun b h1 h2=>by unfold J1 at h2;omega
 obtain⟨v,vals,h1,h2,h3⟩:=h.box;refine⟨h.below.trans (hT.below (fun k hk=>by unfold J1 at hk;omega) h.below.size),Zx h.size hT.size,v,vals,(hT.block _ (Za.1 h1).1 (by unfold J1;omega)).trans h1,DF hT hx h2,fun i x hi=>?_⟩;obtain⟨u,hu,hs⟩:=h3 i x hi;exact⟨u,hu,I0 hT (fun b hb=>hx b hb.1.1) hs⟩
theorem sN {base n:Nat}{A:Zb}{v:Zc}{vals:List Zc}{ls:List (List Int)}(h:A.ownsRow base 22 1 v ls.length vals)(hn:n≤base)(hv:∀(i:Nat) (x:List Int),ls[i]?=some x→∃u,vals[i]?=some u∧SI (Cy n A) A u x):SL (Cy n A) A v ls:=by
 obtain⟨a,c,h1,h2,h3,h4⟩:=Uk h;refine⟨a,c,h1,h2,h3,fun i x hx=>?_⟩;obtain⟨u,hu,hs⟩:=hv i x hx;obtain⟨b,hb,hN,hc⟩:=h4 i u hu;refine⟨b,0,[u],hb,⟨Zx hn hN.1,hN.2⟩,rfl,fun j y hy=>?_,u,rfl,hs⟩;cases j with
 |zero=>cases hy;exact hc
 |succ j=>cases hy
theorem amu {S:Nat→Prop}{bg:Nat}{w:Zb}{v1 v2 v3 v4 v5:Zc}{ab:Nat→Nat}{c:Aw}(hg:w.heap[bg]?=some (.cells (Ba v1 v2 v3 v4 v5 ab) 112 (0,0)))(hR:RC S w v1 v2 v3 v4 v5 c)(hS:∀b,S b→b<w.heap.size)
  (Jm:c.Aa.length≤3) (B3:∀i,i<c.Aa.length→-2≤(Aj c.Aa i).low∧(Aj c.Aa i).high≤2):
  CallsIn Fence.wide 0 Lp 152 #[.slice none 0 0,.func (.func 153) #[] #[.pointer (some ⟨bg,0,none⟩)]] w fun e w'=>∃v,e=.returned v∧Zm w.heap.size w w'∧SL (Cy w.heap.size w') w' v (KI c):=by
 have sI:=aah hg hR hS Jm B3;have hbg:=(Za.1 hg).1;obtain⟨K,hK⟩:∃K:Nat→Prop,K=fun k=>S k∨k=bg:=⟨_,rfl⟩;have pC:∀k,K k→k<w.heap.size:=fun k h=>by
  rw[hK]at h;rcases h with h|rfl
  ·exact hS k h
  ·exact hbg
 rw[←hK]at sI;clear hK;have hN:(KI c).length≤125:=by
  have:=Sk c.Aa B3;have h2:5^c.Aa.length≤5^3:=Nat.pow_le_pow_right (by decide) Jm;exact Zx this h2
 obtain⟨i0,hi,Fg,El,EN⟩:=YC Jf;have hu:=CM Yn;refine callsIn_of_wp_marks Lp.func152 rfl trivial ?_ rfl;show Code.wpIn _ _ _ _ _ {tmps:= #[.slice none 0 0,.func (.func 153) #[] #[.pointer (some ⟨bg,0,none⟩)]]++_,defers:=[]} _;simp only[alf,ZaZ,zK,zY,Zak,Nat.reduceSub,Zau,Zat,Za0,ZaG,zE,ZaC]
 gi_wp2
 obtain⟨W,hW⟩:∃W,W=w.alloc (.cells #[.slice none 0 0] 27):=⟨_,rfl⟩;have hB:Zm w.heap.size w W:=by rw[hW];exact bA (Zi _ _)
 have hZ:W.heap.size=w.heap.size+1:=by rw[hW];simp
 have hX:W.heap[w.heap.size]?=some (.cells #[.slice none 0 0] 27 (0,0)):=by rw[hW];exact Bv _ _
 rw[←hW];clear hW;refine jO (gf:=153) (lb:= #[.pointer (some ⟨bg,0,none⟩)]) rfl (Go.Proofs.enters_of Lp.func153 (by kernel_rfl) rfl) sI hB.size (fun k hk=>?_) (AQ w (W.heap.size+6)) (fun A hA hs=>?_) (fun pre A B h hT=>h.Du (by omega) rfl hT)
  (fun u=> {tmps:= #[.slice none 0 0,.func (.func 153) #[] #[.pointer (some ⟨bg,0,none⟩)],.pointer (some ⟨w.heap.size,0,none⟩),Ze,.slice none 0 0,u,.func (.func 153) #[] #[.pointer (some ⟨bg,0,none⟩)],u,Ze,Ze,Ze,Ze,Ze],defers:=[]}) ?assign ?body ?done
 ·exact⟨pC k hk,hB.block k (pC k hk)⟩
 ·exact⟨hB.trans (hA.mono hB.size),by omega,_,[],(hA.block _ (by omega)).trans hX,Yz _ _ _ _,fun i x hx=>by cases hx⟩
 case assign=>
  rintro l u W' K ⟨ad,n,cc,rfl⟩ hK
  gi_wp2
  exact hK
 case body=>
  intro l pre x u A0 A hI0 hT hz hlen pP;have hI:=hI0.Du (by omega) rfl hT;obtain⟨v,vals,Lg,Ds,GF⟩:=hI.box;obtain⟨ad,cc,rfl,lu,mu⟩:=pP.val;have hzA:W.heap.size+6≤A.heap.size:=hI.size;have hwW:w.heap.size<W.heap.size:=by omega
  have HZ:=Zh hZ;clear hZ;have kb:=ch (i:=0) Lg (v:=v) rfl;have fb:=cf (i:=0) Lg
  gi_wp2_with (gi_at_builtin;refine wpListIn_append_own _ rfl _ _ 27 rfl (W.heap.size+6) 22 i0 (.slice none 0 0) 1 24 hu (D3 hi) Fg El EN rfl (by decide) _ _ _ rfl (Ds.alloc _) ⟨A.heap.size,0,none⟩ 1 1 [.slice ad x.length cc] rfl rfl (cell_one_new _ _ _) (by simp[ZaL]) (by unfold maxLen;omega) (by omega) (by simp;omega) ?_;intro v' w1 Be AG Fi;obtain⟨g',GI,rfl⟩:=ownsRow_succ Be;have f_:(A.alloc (.cells #[.slice ad x.length cc] 22)).grownBy w1 v.ownBlock:=AG;have FD:∀k,v.ownBlock=some k→W.heap.size+6≤k:=fun k hk=>(Ds.lt k hk).1;have oA:w1.heap[w.heap.size]?=some (.cells #[v] 27 (0,0)):=(f_.block _ (by simp;omega) (fun e=>by have:=FD _ e.symm;omega)).trans (Bm Lg _);have kb1:=ch (i:=0) oA (v:=v) rfl;have fb1:=cf (i:=0) oA)
  have oa:=HZ.out;have NC:Am (fun k=>¬J1 W.heap.size (4+2) k∧¬K k) A w1:=(Am.later (bA (Zi _ _))).trans (Am.grown f_ fun k hk=>by
   have:=FD k hk;exact⟨by unfold J1;omega,fun h=>by have:=pC k h;omega⟩)
  have El:A.heap.size<w1.heap.size:=by have:=f_.size;simp at this;omega
  have Fa:∀(T:Nat→Prop),T w.heap.size→Am T w1 (w1.setCell ⟨w.heap.size,0,none⟩ (.slice (some ⟨g',0,none⟩) (pre.length+1) GI)):=fun T h=>(Am.refl _ _).set h;refine⟨⟨?_,?_,_,vals++ [.slice ad x.length cc],A5 oA _,?_,fun i y hy=>?_⟩,NC.trans (Fa _ ⟨by unfold J1;omega,fun h=>by have:=pC _ h;omega⟩)⟩
  ·exact(Br (bA hI.below) f_ (fun k hk=>by have:=FD k hk;omega) (by have:=hI.below.size;simp;omega)).trans ((Fa (fun k=>k=w.heap.size) rfl).below (fun k hk=>by omega) (by omega))
  ·have:=(Fa (fun k=>k=w.heap.size) rfl).size
   omega
  ·rw[ZV]
   exact DF (Fa (fun k=>k=w.heap.size) rfl) (fun b h1 h2=>by omega) Be
  ·have key:∀u,SI (ND 3 (W.heap.size+6) A) A u y→SI (ND 3 (W.heap.size+6) (w1.setCell ⟨w.heap.size,0,none⟩ (.slice (some ⟨g',0,none⟩) (pre.length+1) GI))) (w1.setCell ⟨w.heap.size,0,none⟩ (.slice (some ⟨g',0,none⟩) (pre.length+1) GI)) u y:=fun u h=>by
    refine I0 (T:=fun k=>v.ownBlock=some k∨k=w.heap.size) (((Am.later (bA (Zi _ _))).trans (Am.grown f_ fun k hk=>.inl hk)).trans (Fa _ (.inr rfl))) (fun b hb h=>?_) h;rcases h with h|h
    ·obtain⟨cs,hcs⟩:=hb.2
     rcases Ds.2 with⟨e,_⟩|⟨g,cap,cur,e,_,hg,_⟩
     ·rw[e]at h;cases h
     ·rw[e]at h
      cases h;rw[hg]at hcs;cases hcs
    ·have:=hb.1.1
     omega
   by_cases Az:i<pre.length
   ·rw[zD Az]at hy
    obtain⟨u,hu,hs⟩:=GF i y hy;exact⟨u,by rw[zD (Zo.1 hu).1];exact hu,key u hs⟩
   ·have iV:=(Zo.1 hy).1
    rw[ZV,zK,zY]at iV;obtain rfl:i=pre.length:=by omega
    rw[List.getElem?_concat_length]at hy;cases hy;have hvl:vals.length=pre.length:=by have:=Ds.1;omega
    refine⟨.slice ad x.length cc,by rw[←hvl,List.getElem?_concat_length],key _ (Sl.imp pP (fun b hb=>⟨⟨?_,hb.1.2⟩,hb.2⟩) (fun _ _ x=>x))⟩;have:=hb.1.1;omega
 case done=>
  intro A hI hD;obtain⟨v,vals,Lg,Ds,GF⟩:=hI.box;have kb:=ch (i:=0) Lg (v:=v) rfl;have HZ:=Zh hZ;clear hZ
  gi_wp2
  have oa:=HZ.out;have hT:Am (fun k=>k=W.heap.size) A (A.putObj W.heap.size (.deferred none)):=(Am.refl _ _).put rfl;have hBA:Zm w.heap.size w (A.putObj W.heap.size (.deferred none)):=hI.below.trans (hT.below (fun k hk=>by omega) hI.below.size);have PV:=DF hT (fun b h1 h2=>by omega) Ds;have xv:∀(i:Nat) (x:List Int),(KI c)[i]?=some x→∃u,vals[i]?=some u∧SI (Cy w.heap.size (A.putObj W.heap.size (.deferred none))) (A.putObj W.heap.size (.deferred none)) u x:=fun i x hx=>by
   obtain⟨u,h1,h2⟩:=GF i x hx;exact⟨u,h1,Sl.imp (I0 hT (fun b hb h=>by have:=hb.1.1;omega) h2) (fun b hb=>⟨by have:=hb.1.1;omega,hb.1.2⟩) (fun _ _ x=>x)⟩
  refine⟨by simp,.inl ⟨_,_,rfl,run_takeDeferred hD,?_⟩⟩;exact⟨_,results_tmp rfl _ _ _,_,rfl,hBA,sN PV (by omega) xv⟩
theorem amv {S:Nat→Prop}{bg:Nat}{w:Zb}{v1 v2 v3 v4 v5:Zc}{ab:Nat→Nat}{c:Aw}(hg:w.heap[bg]?=some (.cells (Ba v1 v2 v3 v4 v5 ab) 112 (0,0)))(hR:RC S w v1 v2 v3 v4 v5 c)(hS:∀b,S b→b<w.heap.size)
  (Jm:c.Aa.length≤3) (B3:∀i,i<c.Aa.length→-2≤(Aj c.Aa i).low∧(Aj c.Aa i).high≤2):
  Calls Lp 102 #[.func (.func 153) #[] #[.pointer (some ⟨bg,0,none⟩)]] w fun e w'=>∃v,e=.returned v∧Zm w.heap.size w w'∧SL (Cy w.heap.size w') w' v (KI c):=by
 have amw:=Zh (callsIn_wide.1 (amu hg hR hS Jm B3));go_enter Lp.func102,akX;go_wp2_with (go_at_call 152;refine amw.out.mono ?_;rintro e w1 ⟨v,rfl,hB,hv⟩;obtain⟨a,cc,rfl,_⟩:=hv.val);go_ret;exact⟨_,rfl,hB,hv⟩
abbrev Key:=Int×(Int×Int×Int)×(Int×Int×Int)
def Dl (k:Key):Zc:=.agg #[.int .i64 k.1,.int .i64 k.2.1.1,.int .i64 k.2.1.2.1,.int .i64 k.2.1.2.2,.int .i64 k.2.2.1,.int .i64 k.2.2.2.1,.int .i64 k.2.2.2.2]
theorem aai:Lp.underlying 213=some (.struct (Lp.fieldsOf 213)):=by kernel_rfl
theorem afU:Lp.underlying 149=some (.array 3 3):=CM Tryz.underlying149
theorem u3:Lp.underlying 3=some (.int .i64):=CM Tryz.underlying3
theorem PS (w:Zb)(xs:Array Zc)(i:Nat)(v:Int)(h:xs[i]?=some (.int .i64 v)):(part 3 xs i).run Lp w=.ok (.int .i64 v) w:=by
 have ha:∀w,(isAgg 3).run Lp w=.ok false w:=fun w=>Go.Proofs.run_isAgg_plain u3 rfl w;simp[part,za,ha,zB,h]
theorem afV (w:Zb)(d:Nat)(a b c x y z:Int):(Op.equalIn (d+2) 149 (.agg #[.int .i64 a,.int .i64 b,.int .i64 c]) (.agg #[.int .i64 x,.int .i64 y,.int .i64 z])).run Lp w=.ok (decide (a=x∧b=y∧c=z)) w:=by
 obtain⟨i0,hi,Fg,El,EN⟩:=YC Lu;have hc:Lp.cellsOf 3=1:=by kernel_rfl
 have he:∀w a b,(Op.equalIn (d+1) 3 (.int .i64 a) (.int .i64 b)).run Lp w=.ok (a==b) w:=fun w a b=>run_equalIn_int w d 3 .i64 .i64 a b u3;have p0:=fun w (a b c:Int)=>PS w #[.int .i64 a,.int .i64 b,.int .i64 c] 0 a rfl;have p1:=fun w (a b c:Int)=>PS w #[.int .i64 a,.int .i64 b,.int .i64 c] 1 b rfl;have p2:=fun w (a b c:Int)=>PS w #[.int .i64 a,.int .i64 b,.int .i64 c] 2 c rfl;rw[run_equalIn_array w (d+1) _ _ afU (D3 hi),hc,show ZaB 3=[0,1,2] from rfl];by_cases h1:a=x<;>by_cases h2:b=y<;>by_cases h3':c=z<;>simp[Op.eqItems,za,p0,p1,p2,he,h1,h2,h3']
theorem gj (w:Zb)(xs:Array Zc)(i:Nat):(part 149 xs i).run Lp w=.ok (.agg (xs.extract i (i+3))) w:=by
 have ha:∀w,(isAgg 149).run Lp w=.ok true w:=fun w=>by kernel_rfl
 have hs:∀w,(sizeOf 149).run Lp w=.ok 3 w:=fun w=>by kernel_rfl
 simp[part,za,ha,hs,zB]
theorem f213:Lp.fieldsOf 213= #[{name:= "singer",type:=3,offset:=0,embedded:=false,tag:= "",pkgPath:= "galloon/seam",byteOffset:=0}, {name:= "now",type:=149,offset:=1,embedded:=false,tag:= "",pkgPath:= "galloon/seam",byteOffset:=8}, {name:= "left",type:=149,offset:=4,embedded:=false,tag:= "",pkgPath:= "galloon/seam",byteOffset:=32}]:=by kernel_rfl
theorem vH (w:Zb)(k k':Key):(Y0 213 (Dl k) (Dl k')).run Lp w=.ok (decide (k=k')) w:=by
 obtain⟨s,⟨a,b,c⟩,x,y,z⟩:=k;obtain⟨s',⟨a',b',c'⟩,x',y',z'⟩:=k';have he:∀w a b,(Op.equalIn 9999 3 (.int .i64 a) (.int .i64 b)).run Lp w=.ok (a==b) w:=fun w a b=>run_equalIn_int w 9998 3 .i64 .i64 a b u3;have oB:=fun w a b c x y z=>afV w 9997 a b c x y z;simp only[Zak]at oB;have p0:=fun w (s a b c x y z:Int)=>PS w #[.int .i64 s,.int .i64 a,.int .i64 b,.int .i64 c,.int .i64 x,.int .i64 y,.int .i64 z] 0 s rfl;unfold Y0 Op.maxDepth Dl;rw[run_equalIn_agg (d:=9999) (ht:=aai) (hp:=by kernel_rfl),f213];by_cases h1:s=s'<;>by_cases h2:a=a'∧b=b'∧c=c'<;>by_cases h3:x=x'∧y=y'∧z=z'<;>simp[Op.eqFields,za,p0,gj,he,oB,h1,h2,h3]
theorem oC (w:Zb)(em:Bool)(n:Nat)(v:Int):(Yt em (n+1) 3 (.int .i64 v)).run Lp w=.ok () w:=by
 unfold Yt;simp[za,YS u3,zB]
theorem oD (w:Zb)(em:Bool)(n:Nat)(a b c:Int):(Yt em (n+2) 149 (.agg #[.int .i64 a,.int .i64 b,.int .i64 c])).run Lp w=.ok () w:=by
 have hs:∀w,(sizeOf 3).run Lp w=.ok 1 w:=fun w=>by kernel_rfl
 have p0:=fun w (a b c:Int)=>PS w #[.int .i64 a,.int .i64 b,.int .i64 c] 0 a rfl;have p1:=fun w (a b c:Int)=>PS w #[.int .i64 a,.int .i64 b,.int .i64 c] 1 b rfl;have p2:=fun w (a b c:Int)=>PS w #[.int .i64 a,.int .i64 b,.int .i64 c] 2 c rfl;unfold Yt;simp only[za,YS afU,Zaj];simp only[Std.Legacy.Range.forIn_eq_forIn_range',Std.Legacy.Range.size,Nat.sub_zero,Nat.add_one_sub_one,Nat.div_one];rw[show List.range' 0 3=[0,1,2] from rfl];simp[za,hs,p0,p1,p2,oC,zB]
theorem Nq (w:Zb)(em:Bool)(k:Key):(Yt em 10000 213 (Dl k)).run Lp w=.ok () w:=by
 obtain⟨s,⟨a,b,c⟩,x,y,z⟩:=k;have p0:=fun w (s a b c x y z:Int)=>PS w #[.int .i64 s,.int .i64 a,.int .i64 b,.int .i64 c,.int .i64 x,.int .i64 y,.int .i64 z] 0 s rfl;have h3:=fun w v=>oC w em 9998 v;have oB:=fun w a b c=>oD w em 9997 a b c;simp only[Zak]at h3 oB;unfold Yt Dl;simp only[za,YS aai,Zaj,f213];simp[za,p0,gj,h3,oB,zB]
theorem oE (w:Zb)(k:Key):(zX (Dl k) (Dl k)).run Lp w=.ok (Dl k) w:=by
 obtain⟨s,⟨a,b,c⟩,x,y,z⟩:=k;have h:zs 10000 (Dl (s,(a,b,c),x,y,z)) (Dl (s,(a,b,c),x,y,z))=true:=by
  simp[Dl,zs]
 simp[zX,h]
theorem gm (w:Zb)(k:Key):∀(es:List MapEntry) (i:Nat),(∀e∈es,∃k',e.key=Dl k')→
  ((zL 213 (Dl k) es i).run Lp w=.ok none w∧∀e∈es,e.key≠Dl k)∨∃j e,(zL 213 (Dl k) es i).run Lp w=.ok (some (i+j,e.val)) w∧es[j]?=some e∧e.key=Dl k
 | [],i,_=>.inl ⟨by simp[zL],fun e he=>by cases he⟩
 |e::es,i,h=>by
  obtain⟨k',hk⟩:=h e (zF ..);by_cases qQ:k=k'
  ·subst qQ
   refine .inr ⟨0,e,?_,rfl,hk⟩;simp[zL,za,hk,vH]
  ·have Bs:(zL 213 (Dl k) (e::es) i).run Lp w=(zL 213 (Dl k) es (i+1)).run Lp w:=by
    simp[zL,za,hk,vH,qQ]
   rcases gm w k es (i+1) fun x hx=>h x (zr _ hx) with⟨h1,h2⟩|⟨j,x,h1,h2,h3⟩
   ·refine .inl ⟨Bs.trans h1,fun x hx=>?_⟩
    rcases List.mem_cons.1 hx with rfl|hx
    ·rw[hk]
     intro e;apply qQ;obtain⟨s,⟨a,b,c⟩,x,y,z⟩:=k;obtain⟨s',⟨a',b',c'⟩,x',y',z'⟩:=k';simp[Dl]at e;simp[e]
    ·exact h2 x hx
   ·exact .inr ⟨j+1,x,by rw[Bs,h1];simp;omega,h2,h3⟩
theorem Sv (w:Zb)(k:Key)(es:List MapEntry)(h:∀e∈es,∃k',e.key=Dl k'):
  ((YX 213 (Dl k) es).run Lp w=.ok none w)∨∃j e,(YX 213 (Dl k) es).run Lp w=.ok (some (j,e.val)) w∧es[j]?=some e∧e.key=Dl k:=by
 have e:(YX 213 (Dl k) es).run Lp w=(zL 213 (Dl k) es 0).run Lp w:=by
  unfold YX;simp only[za,YS aai,Zaj];cases es with
  |nil=>simp[Zaz,zL]
  |cons x r=>simp[Zaz,Instr.sameNow]
 rw[e];rcases gm w k es 0 h with⟨h1,_⟩|⟨j,x,h1,h2,h3⟩
 ·exact .inl h1
 ·exact .inr ⟨j,x,by simpa using h1,h2,h3⟩
def Gj (G:Key→Zc→Zb→Prop)(b:Nat)(w:Zb):Prop:=∃es clk,w.heap[b]?=some (.map es clk)∧∀e∈es.toList,∃k,e.key=Dl k∧G k e.val w
theorem sO:Lp.underlying 132=some (.map 213 141):=CM Tryz.underlying132
theorem sP (w:Zb):(zeroValue 141).run Lp w=.ok (.agg #[.slice none 0 0,.int .i64 0,.bool false]) w:=by kernel_rfl
theorem sQ {G:Key→Zc→Zb→Prop}{b:Nat}{w:Zb}(h:Gj G b w)(k:Key):
  (ZaR 132 (.map (some b)) (Dl k) true).run Lp w=.ok (.tuple #[.agg #[.slice none 0 0,.int .i64 0,.bool false],.bool false]) w∨∃v,(ZaR 132 (.map (some b)) (Dl k) true).run Lp w=.ok (.tuple #[v,.bool true]) w∧∃k',Dl k'=Dl k∧G k' v w:=by
 obtain⟨es,clk,hb,he⟩:=h;have hg:(getObj b).run Lp w=.ok (.map es clk) w:=by simp[getObj,Sem.run,hb]
 rcases Sv w k es.toList fun e h=>by obtain⟨k',h1,_⟩:=he e h;exact⟨k',h1⟩ with h1|⟨j,e,h1,h2,h3⟩
 ·left
  simp[ZaR,za,YS sO,hg,Nq,h1,sP,zB]
 ·right
  obtain⟨k',h4,h5⟩:=he e (Yh h2);refine⟨e.val,?_,k',h4.symm.trans h3,h5⟩;simp[ZaR,za,YS sO,hg,Nq,h1,zB]
theorem jQ {G:Key→Zc→Zb→Prop}{b:Nat}{w:Zb}{k:Key}{v:Zc}(h:Gj G b w)(hv:∀es clk,G k v (w.putObj b (.map es clk)))(hk:∀k' v' es clk,G k' v' w→G k' v' (w.putObj b (.map es clk))):
  ∃es clk,(ZaJ 132 (.map (some b)) (Dl k) v).run Lp w=.ok () (w.putObj b (.map es clk))∧Gj G b (w.putObj b (.map es clk)):=by
 obtain⟨es,clk,hb,he⟩:=h;have hg:(getObj b).run Lp w=.ok (.map es clk) w:=by simp[getObj,Sem.run,hb]
 have Az:=(Za.1 hb).1;have hs:∀o,(setObj b o).run Lp w=.ok () (w.putObj b o):=fun o=>by simp[setObj,Sem.run,hb,World.putObj]
 rcases Sv w k es.toList fun e h=>by obtain⟨k',h1,_⟩:=he e h;exact⟨k',h1⟩ with h1|⟨j,e,h1,h2,h3⟩
 ·refine⟨es.push {key:=Dl k,val:=v,born:=clk},clk+1,?_,_,_,Zai Az,fun e he'=>?_⟩
  ·simp[ZaJ,za,YS sO,hg,Nq,h1,hs,zB]
  ·rw[Array.toList_push]at he'
   rcases Zax.1 he' with h|h
   ·obtain⟨k',h4,h5⟩:=he e h
    exact⟨k',h4,hk _ _ _ _ h5⟩
   ·rw[YJ.1 h]
    exact⟨k,rfl,hv _ _⟩
 ·have hj:es[j]?=some e:=by simpa using h2
  refine⟨es.modify j fun e=> {e with key:=Dl k,val:=v},clk,?_,_,_,Zai Az,fun x hx=>?_⟩
  ·simp[ZaJ,za,YS sO,hg,Nq,h1,hj,h3,oE,hs,zB]
  ·obtain⟨i,hi,rfl⟩:=Zaq hx
   have Df:i<es.size:=by simpa using hi
   simp only[Array.getElem_toList,Array.getElem_modify];split
   ·exact⟨k,rfl,hv _ _⟩
   ·obtain⟨k',h4,h5⟩:=he es[i] (by simp)
    exact⟨k',h4,hk _ _ _ _ h5⟩
def LT (w:Zb)(b:Nat):Prop:=∃cs e,w.heap[b]?=some (.cells cs e (0,0))∧(e=3∨e=22)
def LS (n0 mb:Nat)(w:Zb)(b:Nat):Prop:=(b<n0∧b≠mb∧b<w.heap.size)∨LT w b
def Kept (n0 mb:Nat)(w w':Zb):Prop:=∀b,LS n0 mb w b→w'.heap[b]?=w.heap[b]?
def LL (n0 mb:Nat)(w:Zb)(u:Zc)(ls:List (List Int)):Prop:=SL (LS n0 mb w) w u ls
section
variable {n0 mb:Nat}{w w' V_:Zb}{u:Zc}{ls:List (List Int)}
theorem LS.lt {b:Nat}(h:LS n0 mb w b):b<w.heap.size:=by
 rcases h with h|⟨cs,e,h,_⟩
 ·exact h.2.2
 ·exact(Za.1 h).1
theorem LS.Au {b:Nat}(h:LS n0 mb w b)(hk:Kept n0 mb w w'):LS n0 mb w' b:=by
 have e:=hk b h;have hl:=h.lt;have Az:b<w'.heap.size:=by
  rw[ZB hl]at e;exact(Za.1 e).1
 rcases h with h|⟨cs,e',h,h2⟩
 ·exact .inl ⟨h.1,h.2.1,Az⟩
 ·exact .inr ⟨cs,e',e.trans h,h2⟩
theorem LL.Au (h:LL n0 mb w u ls)(hk:Kept n0 mb w w'):LL n0 mb w' u ls:=
 Sl.imp (SL.Au h (w':=w') fun b hb _=>hk b hb) (fun _ hb=>hb.Au hk) (fun _ _ ⟨u,e,h⟩=>⟨u,e,Sl.imp h (fun _ hb=>hb.Au hk) fun _ _ x=>x⟩)
theorem Kept.refl (n0 mb:Nat)(w:Zb):Kept n0 mb w w:=fun _ _=>rfl
theorem Kept.trans (h:Kept n0 mb w w')(k:Kept n0 mb w' V_):Kept n0 mb w V_:=fun b hb=>(k b (hb.Au h)).trans (h b hb)
theorem Kept.VS (h:Cf mb w w')(hm:∃es clk,w.heap[mb]?=some (.map es clk)):Kept n0 mb w w':=fun b hb=>h.block b hb.lt (by
 rcases hb with hb|⟨cs,e,hb,_⟩
 ·exact hb.2.1
 ·rintro rfl
  obtain⟨es,clk,hm⟩:=hm;rw[hb]at hm;cases hm)
theorem Kept.later (h:Zm w.heap.size w w'):Kept n0 mb w w':=fun b hb=>h.block b hb.lt
theorem Kept.set {q i:Nat}{v:Zc}{cs:Array Zc}{e:Zs}(hq:w.heap[q]?=some (.cells cs e (0,0)))(he:e≠3∧e≠22)(hn:n0≤q):Kept n0 mb w (w.setCell ⟨q,i,none⟩ v):=fun b hb=>AW (by
 rintro rfl;rcases hb with hb|⟨cs',e',hb,h2⟩
 ·omega
 ·rw[hb]at hq
  cases hq;rcases h2 with h2|h2
  ·exact he.1 h2
  ·exact he.2 h2) _
theorem Kept.row {q:Nat}{ys cs:Array Zc}{e:Zs}(hq:w.heap[q]?=some (.cells cs e (0,0)))(he:e≠3∧e≠22)(hn:n0≤q):Kept n0 mb w (w.setRow q ys):=fun b hb=>setRow_other _ _ _ _ (by
 rintro rfl;rcases hb with hb|⟨cs',e',hb,h2⟩
 ·omega
 ·rw[hb]at hq
  cases hq;rcases h2 with h2|h2
  ·exact he.1 h2
  ·exact he.2 h2)
theorem Kept.put {o:Obj}(hm:∃es clk,w.heap[mb]?=some (.map es clk)):Kept n0 mb w (w.putObj mb o):=fun b hb=>zq (by
 rintro rfl;rcases hb with hb|⟨cs,e,hb,_⟩
 ·exact hb.2.1 rfl
 ·obtain⟨es,clk,hm⟩:=hm
  rw[hb]at hm;cases hm)
end
def KJ (n0 mb:Nat)(w:Zb)(v:Zc):Option (List (List Int)×Int)→Prop
 |none=>v=.agg #[.slice none 0 0,.int .i64 0,.bool false]
 |some p=>∃u,v=.agg #[u,.int .i64 p.2,.bool true]∧LL n0 mb w u p.1
theorem KJ.Au {n0 mb:Nat}{w w':Zb}{v:Zc}{r:Option (List (List Int)×Int)}(h:KJ n0 mb w v r)(hk:Kept n0 mb w w'):KJ n0 mb w' v r:=by
 cases r with
 |none=>exact h
 |some p=>
  obtain⟨u,h1,h2⟩:=h;exact⟨u,h1,h2.Au hk⟩
theorem KJ.val {n0 mb:Nat}{w:Zb}{v:Zc}{r:Option (List (List Int)×Int)}(h:KJ n0 mb w v r):∃a n c m s,v=.agg #[.slice a n c,.int .i64 m,.bool s]∧s=r.isSome∧(∀p,r=some p→m=p.2∧LL n0 mb w (.slice a n c) p.1)∧(r=none→a=none∧n=0∧c=0∧m=0):=by
 cases r with
 |none=>exact⟨none,0,0,0,false,h,rfl,(fun p hp=>by cases hp),fun _=>⟨rfl,rfl,rfl,rfl⟩⟩
 |some p=>
  obtain⟨u,h1,h2⟩:=h;obtain⟨a,c,rfl,_⟩:=Sl.val h2;exact⟨a,_,c,p.2,true,h1,rfl,fun q hq=>by cases hq;exact⟨rfl,h2⟩,fun hq=>by cases hq⟩
def Ms (i:Nat)(d:Aw):Key:=(i,(nth d.now 0,nth d.now 1,nth d.now 2),(Aj d.Aa 0).left,(Aj d.Aa 1).left,(Aj d.Aa 2).left)
def Fu (n0 mb:Nat)(ab:Nat→Nat)(c:Aw)(fits:List (List (List Int)))(k:Key)(v:Zc)(w:Zb):Prop:=
 ∀i d,i≤fits.length→jN c d→Dl (Ms i d)=Dl k→KJ n0 mb w v (Gi ab (fits.drop i) d)
theorem oF {k k':Key}(h:Dl k=Dl k'):k=k':=by
 obtain⟨s,⟨a,b,c⟩,x,y,z⟩:=k;obtain⟨s',⟨a',b',c'⟩,x',y',z'⟩:=k';simp[Dl]at h;simp[h]
theorem oG {c d d':Aw}{i i':Nat}(h:jN c d)(h':jN c d')(hf:c.Aa.length≤3)(e:Ms i d=Ms i' d'):i=i'∧d=d':=by
 unfold Ms at e;simp only[Prod.mk.injEq]at e;obtain⟨e0,⟨e1,e2,e3⟩,e4,e5,e6⟩:=e;refine⟨by omega,h.eq h' (fun j hj=>?_) (fun j hj=>?_)⟩
 ·have:j=0∨j=1∨j=2:=by omega
  rcases this with rfl|rfl|rfl<;>assumption
 ·have:j=0∨j=1∨j=2:=by omega
  rcases this with rfl|rfl|rfl<;>assumption
theorem Fu.of {n0 mb:Nat}{ab:Nat→Nat}{c d:Aw}{fits:List (List (List Int))}{i:Nat}{v:Zc}{w:Zb}(hd:jN c d)(hf:c.Aa.length≤3)(h:KJ n0 mb w v (Gi ab (fits.drop i) d)):Fu n0 mb ab c fits (Ms i d) v w:=
 fun i' d' _ bw e=>by
  obtain⟨rfl,rfl⟩:=oG bw hd hf (oF e);exact h
theorem Fu.Au {n0 mb:Nat}{ab:Nat→Nat}{c:Aw}{fits:List (List (List Int))}{k:Key}{v:Zc}{w w':Zb}(h:Fu n0 mb ab c fits k v w)(hk:Kept n0 mb w w'):Fu n0 mb ab c fits k v w':=
 fun i d hi hd e=>(h i d hi hd e).Au hk
theorem Gj.Au {n0 mb:Nat}{ab:Nat→Nat}{c:Aw}{fits:List (List (List Int))}{w w':Zb}(h:Gj (Fu n0 mb ab c fits) mb w)(hk:Kept n0 mb w w')(he:w'.heap[mb]?=w.heap[mb]?):Gj (Fu n0 mb ab c fits) mb w':=by
 obtain⟨es,clk,h1,h2⟩:=h;refine⟨es,clk,he.trans h1,fun e hm=>?_⟩;obtain⟨k,h3,h4⟩:=h2 e hm;exact⟨k,h3,h4.Au hk⟩
theorem Gj.is {G:Key→Zc→Zb→Prop}{b:Nat}{w:Zb}(h:Gj G b w):∃es clk,w.heap[b]?=some (.map es clk):=by
 obtain⟨es,clk,h1,_⟩:=h;exact⟨es,clk,h1⟩
def Rll (n0 mb:Nat)(w:Zb)(cs:List Zc)(x:List (List Int)):Prop:=∃u,cs=[u]∧LL n0 mb w u x
def EJ (k:Key):Array Zc:= #[.int .i64 k.1,.int .i64 k.2.1.1,.int .i64 k.2.1.2.1,.int .i64 k.2.1.2.2,.int .i64 k.2.2.1,.int .i64 k.2.2.2.1,.int .i64 k.2.2.2.2]
structure FS (n0 mb:Nat)(ab:Nat→Nat)(c:Aw)(fits:List (List (List Int)))(w:Zb)(vf:Zc)(g:Array Zc)(k:Key)(wr:Zb):Prop where
 Cd:Cf mb w wr
 vI:wr.heap[w.heap.size]?=some (.cells #[vf,.map (some mb)] 134 (0,0))
 Tp:wr.heap[w.heap.size+1]?=some (.cells g 112 (0,0))
 res:wr.heap[w.heap.size+1+1]?=some (.cells #[.slice none 0 0,.int .i64 0,.bool false] 141 (0,0))
 key:wr.heap[w.heap.size+1+1+1]?=some (.cells (EJ k) 213 (0,0))
 kept:Kept n0 mb w wr
 map:Gj (Fu n0 mb ab c fits) mb wr
section
variable {n0 mb:Nat}{ab:Nat→Nat}{c:Aw}{fits:List (List (List Int))}{w wr wx:Zb}{vf:Zc}{g:Array Zc}{k:Key}
theorem FS.step (h:FS n0 mb ab c fits w vf g k wr)(hm:mb<w.heap.size)(hb:Cf mb wr wx)(hM:Gj (Fu n0 mb ab c fits) mb wx):FS n0 mb ab c fits w vf g k wx:=by
 have hx:∀q o,q≠mb→wr.heap[q]?=some o→wx.heap[q]?=some o:=fun q o hq ho=>(hb.block q (Za.1 ho).1 hq).trans ho;refine⟨⟨hb.os.trans h.Cd.os,hb.tape.trans h.Cd.tape,hb.output.trans h.Cd.output,Zx h.Cd.size hb.size,fun q hq BI=>(hb.block q (Zl hq h.Cd.size) BI).trans (h.Cd.block q hq BI)⟩,hx _ _ (by omega) h.vI,hx _ _ (by omega) h.Tp,hx _ _ (by omega) h.res,hx _ _ (by omega) h.key,h.kept.trans (Kept.VS hb h.map.is),hM⟩
theorem FS.later (h:FS n0 mb ab c fits w vf g k wr)(hm:mb<w.heap.size)(hB:Zm wr.heap.size wr wx):FS n0 mb ab c fits w vf g k wx:=by
 have hb:=(Cf.refl mb wr).below hB;obtain⟨es,clk,Gm⟩:=h.map.is;exact h.step hm hb (h.map.Au (Kept.later hB) (hB.block _ (Za.1 Gm).1))
theorem FS.set (h:FS n0 mb ab c fits w vf g k wr)(hn:n0≤w.heap.size)(hm:mb<w.heap.size){q j:Nat}{v:Zc}{cs:Array Zc}{e:Zs}(hq:wr.heap[q]?=some (.cells cs e (0,0)))(he:e≠3∧e≠22)(hz:w.heap.size+1+1+1<q):FS n0 mb ab c fits w vf g k (wr.setCell ⟨q,j,none⟩ v):=by
 have hk:Kept n0 mb wr (wr.setCell ⟨q,j,none⟩ v):=Kept.set hq he (by omega);refine⟨⟨h.Cd.os,h.Cd.tape,h.Cd.output,by simpa using h.Cd.size,fun x hx BI=>(AW (by omega) _).trans (h.Cd.block x hx BI)⟩,(AW (by omega) _).trans h.vI,(AW (by omega) _).trans h.Tp,(AW (by omega) _).trans h.res,(AW (by omega) _).trans h.key,h.kept.trans hk,h.map.Au hk (AW (by omega) _)⟩
theorem FS.stage (h:FS n0 mb ab c fits w vf g k wr)(hn:n0≤w.heap.size)(hm:mb<w.heap.size){k':Key}{W:Zb}(hB:Am (fun b=>b=w.heap.size+1+1+1) wr W)(hK:Kept n0 mb wr W)(hk:W.heap[w.heap.size+1+1+1]?=some (.cells (EJ k') 213 (0,0))):FS n0 mb ab c fits w vf g k' W:=by
 have hx:∀q o,q≠w.heap.size+1+1+1→wr.heap[q]?=some o→W.heap[q]?=some o:=fun q o hq ho=>(hB.block q (Za.1 ho).1 hq).trans ho;refine⟨⟨hB.os.trans h.Cd.os,hB.tape.trans h.Cd.tape,hB.output.trans h.Cd.output,Zx h.Cd.size hB.size,fun q hq BI=>(hB.block q (Zl hq h.Cd.size) (by omega)).trans (h.Cd.block q hq BI)⟩,hx _ _ (by omega) h.vI,hx _ _ (by omega) h.Tp,hx _ _ (by omega) h.res,hk,h.kept.trans hK,?_⟩;obtain⟨es,clk,Gm⟩:=h.map.is;exact h.map.Au hK ((hx mb _ (by omega) Gm).trans Gm.symm)
end
structure FN (n0 mb:Nat)(ab:Nat→Nat)(c:Aw)(fits:List (List (List Int)))(w W0 W:Zb):Prop where
 Cd:Cf mb w W
 kept:Kept n0 mb W0 W
 box:∃cs,W.heap[w.heap.size+1+1]?=some (.cells cs 141 (0,0))
 map:Gj (Fu n0 mb ab c fits) mb W
section
variable {n0 mb:Nat}{ab:Nat→Nat}{c:Aw}{fits:List (List (List Int))}{w W0 W W':Zb}{vf:Zc}{g:Array Zc}{k:Key}
theorem FS.fn (h:FS n0 mb ab c fits w vf g k W):FN n0 mb ab c fits w W W:=⟨h.Cd,Kept.refl _ _ _,⟨_,h.res⟩,h.map⟩
theorem FN.set (h:FN n0 mb ab c fits w W0 W)(hn:n0≤w.heap.size)(hm:mb<w.heap.size){j:Nat}{v:Zc}:FN n0 mb ab c fits w W0 (W.setCell ⟨w.heap.size+1+1,j,none⟩ v):=by
 obtain⟨cs,hb⟩:=h.box;have hk:Kept n0 mb W (W.setCell ⟨w.heap.size+1+1,j,none⟩ v):=Kept.set hb ⟨by decide,by decide⟩ (by omega);exact⟨⟨h.Cd.os,h.Cd.tape,h.Cd.output,by simpa using h.Cd.size,fun x hx BI=>(AW (by omega) _).trans (h.Cd.block x hx BI)⟩,h.kept.trans hk,⟨_,A5 hb v⟩,h.map.Au hk (AW (by omega) _)⟩
theorem FN.later (h:FN n0 mb ab c fits w W0 W)(hB:Zm W.heap.size W W'):FN n0 mb ab c fits w W0 W':=by
 obtain⟨cs,hb⟩:=h.box;obtain⟨es,clk,Gm⟩:=h.map.is;exact⟨h.Cd.below hB,h.kept.trans (Kept.later hB),⟨_,(hB.block _ (Za.1 hb).1).trans hb⟩,h.map.Au (Kept.later hB) (hB.block _ (Za.1 Gm).1)⟩
theorem FN.alloc (h:FN n0 mb ab c fits w W0 W)(o:Obj):FN n0 mb ab c fits w W0 (W.alloc o):=h.later (bA (Zi _ _))
end
abbrev oH (l:List (List (List Int)))(i:Nat):List (List Int):=l.getD i []
theorem Sw {l:List (List (List Int))}{i:Nat}(h:i<l.length):l[i]?=some (oH l i):=by simp[oH,h]
theorem afW {l:List (List (List Int))}{i:Nat}(h:i<l.length):l.drop i=oH l i::l.drop (i+1):=by
 obtain⟨hk,e⟩:=Zo.1 (Sw h);rw[Z4 hk,e]
abbrev SF (n0 mb:Nat)(w:Zb)(v:Zc)(l:List (List (List Int))):Prop:=Sl (LS n0 mb w) (Rll n0 mb) 1 w v l
theorem SF.at_ {n0 mb:Nat}{w:Zb}{a:Option Addr}{c:Nat}{l:List (List (List Int))}(h:SF n0 mb w (.slice a l.length c) l){i:Nat}(hi:i<l.length):
  ∃b o u,a=some ⟨b,o,none⟩∧LS n0 mb w b∧w.cell? ⟨b,o+i,none⟩=some u∧LL n0 mb w u (oH l i):=by
 obtain⟨a',c',h1,_,_,h4⟩:=h;cases h1;obtain⟨b,o,cs,g1,g2,g3,g4,u,rfl,hu⟩:=h4 i _ (Sw hi);exact⟨b,o,u,g1,g2,by simpa using g4 0 _ rfl,hu⟩
theorem SF.Au {n0 mb:Nat}{w w':Zb}{v:Zc}{l:List (List (List Int))}(h:SF n0 mb w v l)(hk:Kept n0 mb w w'):SF n0 mb w' v l:=
 Sl.imp (Sl.Au (w':=w') h (fun b hb _=>hk b hb) (fun _ _ ⟨u,e,h⟩=>⟨u,e,LL.Au h hk⟩)) (fun _ hb=>LS.Au hb hk) (fun _ _ x=>x)
theorem Kept.cell {n0 mb:Nat}{w w':Zb}(hk:Kept n0 mb w w'){b o:Nat}{v:Zc}(hb:LS n0 mb w b)(h:w.cell? ⟨b,o,none⟩=some v):w'.cell? ⟨b,o,none⟩=some v:=by
 unfold zJ at h⊢;rw[show w'.heap[b]?=w.heap[b]? from hk b hb];exact h
theorem FS.put {n0 mb:Nat}{ab:Nat→Nat}{c:Aw}{fits:List (List (List Int))}{w wr:Zb}{vf:Zc}{g:Array Zc}{k:Key}(h:FS n0 mb ab c fits w vf g k wr)(hm:mb<w.heap.size){o:Obj}(hM:Gj (Fu n0 mb ab c fits) mb (wr.putObj mb o)):FN n0 mb ab c fits w wr (wr.putObj mb o):=
 ⟨⟨h.Cd.os,h.Cd.tape,h.Cd.output,by simpa using h.Cd.size,fun q hq BI=>(zq BI).trans (h.Cd.block q hq BI)⟩,Kept.put h.map.is,⟨_,(zq (by omega)).trans h.res⟩,hM⟩
theorem aaj {n0 mb base:Nat}{A:Zb}{v:Zc}{vals:List Zc}{ls:List (List Int)}(h:A.ownsRow base 22 1 v ls.length vals)(hv:∀(i:Nat) (x:List Int),ls[i]?=some x→∃u,vals[i]?=some u∧SI (LS n0 mb A) A u x):LL n0 mb A v ls:=by
 refine Sl.imp (Mr (R:=Rl (LS n0 mb A)) (by decide) h fun i x hx=>?_) (fun b hb=>.inr ?_) (fun _ _ x=>x)
 ·obtain⟨u,hu,hs⟩:=hv i x hx
  refine⟨u,?_,hs⟩;obtain⟨hi,e⟩:=Zo.1 hu;rw[Nat.mul_one,Z4 hi,e]
  rfl
 ·obtain⟨_,cs,hc⟩:=hb
  exact⟨cs,22,hc,.inr rfl⟩
def afX (S:Nat→Prop)(w:Zb)(ls:List (List Int))(e:Ending)(w':Zb):Prop:=Zm w.heap.size w w'∧((∃v,e=.returned v∧SL (fun b=>S b∨ND 22 w.heap.size w' b) w' v ls)∨∃x,e=.panicked x∧PX x w')
theorem afY {S:Nat→Prop}{w:Zb}{v1 v2 v3 v4 v5 v6 v7:Zc}{c:Aw}{ls:List (List Int)}{s:List (Int×Int)}(h:RC S w v1 v2 v3 v4 v5 c)(hv:E6 c)(hl:SL S w v6 ls)(hs:SP S w v7 s)(hn:∀i,i<ls.length→(CF ls i).length≤c.Aa.length∧∀j,j<(CF ls i).length→-2≤nth (CF ls i) j∧nth (CF ls i) j≤2)
  (yP:s.length≤c.base.length) (fR:∀i,i<s.length→0≤(B1 s i).1∧(B1 s i).1≤99∧0≤(B1 s i).2∧(B1 s i).2≤99) (V9:ls.length≤1000000) (hS:∀b,S b→b<w.heap.size) (s0 s1 s2:Nat):
  Calls Lp 104 #[.agg #[v1,v2,v3,v4,v5,.int .u8 s0,.int .u8 s1,.int .u8 s2],v6,v7] w (afX S w (ls.filter fun l=>DC c l s)):=by
 obtain⟨a6,c6,rfl,l6,m6⟩:=hl.val;obtain⟨a7,c7,rfl,l7,m7⟩:=hs.val;have afZ:∀w₁,EE w.heap.size w w₁→aE S w w₁:=fun w₁ hw p v hp hc=>hw p v (hS _ hp) hc;obtain⟨rows,RP⟩:∃rows:Nat→Zc,∀i,i<ls.length→∃ad,a6=some ad∧ad.block<w.heap.size∧w.cell? (ad.add i)=some (rows i)∧SI S w (rows i) (CF ls i):=by
  refine⟨fun i=>match a6 with|some ad=>(w.cell? (ad.add i)).getD Ze|none=>Ze,fun i hi=>?_⟩;obtain⟨b,o,u,rfl,hb,hc,hu⟩:=hl.at_ hi;have e:(⟨b,o,none⟩:Addr).add i=⟨b,o+i,none⟩:=by unfold Addr.add;split<;>simp_all
  refine⟨_,rfl,hS b hb,?_,?_⟩
  ·simp only[e,hc];rfl
  ·simp only[e,hc];exact hu
 have hP:L9 w.heap.size w #[v1,v2,v3,v4,v5,.int .u8 s0,.int .u8 s1,.int .u8 s2] a6 ls.length c6 (.slice a7 s.length c7) rows (fun i=>DC c (CF ls i) s):=by
  refine⟨V9,⟨l6,m6⟩,rfl,fun i hi=>?_,fun i hi=>?_,⟨_,_,_,rfl⟩,fun i hi w₁ hw=>?_⟩
  ·obtain⟨ad,e,h1,h2,_⟩:=RP i hi
   exact⟨ad,e,h1,h2⟩
  ·obtain⟨_,_,_,_,hu⟩:=RP i hi
   obtain⟨a,c',e,_⟩:=hu.val;exact⟨_,_,_,e⟩
  ·obtain⟨_,_,_,_,hu⟩:=RP i hi
   have hk:=afZ w₁ hw;exact afs (h.Hm hk).live hv (Sl.live (hu.Hm hk) (by decide) fun _ _ x=>x) (Sl.live (hs.Hm hk) (by decide) fun _ _ x=>x) (hn i hi).1 (hn i hi).2 yP fR (fun b hb=>hb.2) s0 s1 s2
 cases h1:(((zu 1 0 3).cut (w.tape w.drawn (.appendCap 1 0 3)):Int)==1) with
 |true=>
  refine(RB _ _ _ w h1).mono fun e w' ⟨he,hB⟩=>⟨hB,.inr ⟨_,he,.inl ⟨_,_,_,_,_,_,_,_,_,rfl,hP.Au ?_⟩⟩⟩;exact EE.below hB (Zj _)
 |false=>
  refine(Xx hP h1).mono fun e w' ⟨w₁,hB,h2,h3⟩=>?_;have hf:ls.filter (fun l=>DC c l s)=((List.range' 0 ls.length).filter fun i=>DC c (CF ls i) s).map (CF ls):=VL ls _;have hx:CN rows (fun i=>DC c (CF ls i) s) 0 ls.length=((List.range' 0 ls.length).filter fun i=>DC c (CF ls i) s).map rows:=rfl;have hlen:(CN rows (fun i=>DC c (CF ls i) s) 0 ls.length).length=(ls.filter fun l=>DC c l s).length:=by rw[hf,hx];simp
  by_cases h0:(CN rows (fun i=>DC c (CF ls i) s) 0 ls.length).length=0
  ·obtain⟨he,rfl⟩:=h2 h0
   refine⟨hB,.inl ⟨_,he,?_⟩⟩;rw[Y8 (hlen.symm.trans h0)];exact⟨none,0,rfl,Zj _,Zt _,fun i x hx=>by cases hx⟩
  ·obtain⟨he,rfl⟩:=h3 (Nat.pos_of_ne_zero h0)
   have Bh:Zm w.heap.size w (w₁.drew.alloc (.cells ((CN rows (fun i=>DC c (CF ls i) s) 0 ls.length).toArray++Zr #[.slice none 0 0] (grownCap w₁ (CN rows (fun i=>DC c (CF ls i) s) 0 ls.length).length 0 22 - (CN rows (fun i=>DC c (CF ls i) s) 0 ls.length).length)) 22)):=bA hB.drew;have amx:(CN rows (fun i=>DC c (CF ls i) s) 0 ls.length).length≤maxLen:=by
    rw[hlen];have:=List.length_filter_le (fun l=>DC c l s) ls;unfold maxLen;omega
   refine⟨Bh,.inl ⟨_,he,some ⟨w₁.heap.size,0,none⟩,_,by rw[hlen],by rw[←hlen];exact grownCap_ge _ _ _ _,grownCap_le_maxLen _ _ _ _ amx,fun j x hj=>?_⟩⟩;rw[hf,ZaT]at hj;cases hI:((List.range' 0 ls.length).filter fun i=>DC c (CF ls i) s)[j]? with
   |none=>rw[hI]at hj;cases hj
   |some i=>
    rw[hI]at hj;cases hj;have hi:i<ls.length:=by
     have:=(List.mem_filter.1 (Yh hI)).1;rw[List.mem_range']at this;obtain⟨q,hq,rfl⟩:=this;omega
    obtain⟨ad,_,_,_,hu⟩:=RP i hi;have hxj:(CN rows (fun i=>DC c (CF ls i) s) 0 ls.length)[j]?=some (rows i):=by rw[hx,ZaT,hI];rfl
    have hjl:=(Zo.1 hxj).1;refine⟨w₁.heap.size,0,[rows i],rfl,.inr ⟨⟨hB.size,by simp⟩,_,Bv w₁.drew _⟩,rfl,fun q u hq=>?_,rows i,rfl,Sl.imp (hu.later Bh) (fun b hb=>.inl hb) (fun _ _ x=>x)⟩;cases q with
    |zero=>
     cases hq;rw[show 0+j*1+0=j by omega];refine cn w₁.drew _ 22 ?_;rw[zg (by simpa using hjl)];simpa using hxj
    |succ q=>cases hq
end Go.Proofs.Fit
