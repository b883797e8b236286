/- Part of a proof. -/
import Derived.Test.YtkkjobdfheidkaaGreatDoorQ17
set_option maxRecDepth 100000
set_option maxHeartbeats 6400000
set_option linter.unusedVariables false
set_option linter.unusedSimpArgs false
open And renaming intro→zb
open Array renaming getElem?_eq_some_iff→Za,getElem?_eq_getElem→ZB
open Go renaming TypeId→Zs,World→Zb,Value→Zc,info_parts→YC,wpList_append_own→ZaV,wpQuiet_nil→Ye,wp_append_own→Zav,bodyPost_ret→ZX,undef→Ze
open Go.IntKind renaming wrap_i64→Y5
open Go.Lib renaming hid→Zh
open Go.Proofs.Tryz renaming underlying22→ZaF
open Go.RowKit renaming Below→Zm
open Go.RowKit.Below renaming heap_alloc→zx,refl→Zi
open Go.Value renaming int→ZT,oneCell'→ZaL,slice→Zy
open Go.World renaming ownsRow_made→Yq,ownsRow_nil→Yz,block_lt_of_cell?→ZH,size_alloc→ZG
open Go.World.ownsRow renaming alloc→Zac
open List renaming getElem?_take_of_lt→ZW,getElem?_map→ZaT,ext_getElem?→YM,getElem?_eq_some_iff→Zo,getElem?_drop→YA,nil_append→zE,getD_eq_getElem?_getD→zP,getElem?_append_left→zD,filterMap_cons→zQ,filterMap_nil→zW,getElem?_toArray→ZY,getElem?_cons_succ→ZO,getElem?_cons_zero→ZN,length_append→ZV,drop_eq_getElem_cons→Z4,length_cons→zK,length_nil→zY,range→ZaB,getElem?_set_self→Ya,getElem?_set_ne→ZM,drop_eq_nil_iff→zf,getElem?_eq_none→ZS,mem_of_getElem?→Yh,getElem?_eq_getElem→Z7,mem_append→Zax,mem_singleton→YJ
open Nat renaming le_trans→Zx,lt_of_lt_of_le→Zl,le_refl→Zj,zero_le→Zt,zero_add→Ym
open Option.some renaming inj→Z2
open True renaming intro→Yo
namespace Go.Proofs.Fit
open Go Go.RowKit
theorem F2 {base q n k:Nat}{e:Zs}{A B:Zb}{v:Zc}{xs:List Zc}(h:A.ownsRow base e k v n xs)(hB:Cf q A B)(hq:q<base):B.ownsRow base e k v n xs:=by
 refine⟨h.1,?_⟩;rcases h.2 with h1|⟨g,cap,cur,h1,h2,h3,h4⟩
 ·exact .inl h1
 ·exact .inr ⟨g,cap,cur,h1,h2,(hB.block g (Za.1 h3).1 (by omega)).trans h3,h4⟩
theorem H0 {base n k:Nat}{e:Zs}{A B:Zb}{v:Zc}{xs:List Zc}(h:A.ownsRow base e k v n xs)(hB:Zm A.heap.size A B):B.ownsRow base e k v n xs:=by
 refine⟨h.1,?_⟩;rcases h.2 with h1|⟨g,cap,cur,h1,h2,h3,h4⟩
 ·exact .inl h1
 ·exact .inr ⟨g,cap,cur,h1,h2,(hB.block g (Za.1 h3).1).trans h3,h4⟩
theorem Cf.grown {q:Nat}{w A B:Zb}{row:Option Nat}(h:Cf q w A)(hg:A.grownBy B row)(hr:∀k,row=some k→w.heap.size≤k):Cf q w B:=
 ⟨hg.os.trans h.os,hg.tape.trans h.tape,hg.output.trans h.output,Zx h.size hg.size,fun k hk hq=>(hg.block k (Zl hk h.size) (fun e=>absurd (hr k e.symm) (by omega))).trans (h.block k hk hq)⟩
theorem Cf.trans {b:Nat}{w w' V_:Zb}(h:Cf b w w')(k:Cf b w' V_):Cf b w V_:=⟨k.os.trans h.os,k.tape.trans h.tape,k.output.trans h.output,Zx h.size k.size,fun q hq BI=>(k.block q (Zl hq h.size) BI).trans (h.block q hq BI)⟩
theorem Cf.DS {b q i:Nat}{w W:Zb}{v:Zc}(h:Cf b w W)(hq:w.heap.size≤q):Cf b w (W.setCell ⟨q,i,none⟩ v):=⟨h.os,h.tape,h.output,by simpa using h.size,fun x hx wW=>(AW (by omega) _).trans (h.block x hx wW)⟩
theorem Am.DG {q i:Nat}{v:Zc}{w W:Zb}(h:Am (fun x=>x=q) w W):Am (fun x=>x=q) w (W.setCell ⟨q,i,none⟩ v):=h.set rfl
theorem Cf.at_ {q k:Nat}{w W:Zb}{o:Obj}(h:Cf q w W)(hk:w.heap[k]?=some o)(hq:k≠q):W.heap[k]?=some o:=(h.block k (Za.1 hk).1 hq).trans hk
theorem Ca.lt {w:Zb}{b d:Nat}{v:Zc}(h:Ca w b v d):b<w.heap.size:=by
 obtain⟨st,h⟩:=h;exact(Za.1 h).1
theorem Ca.later {w W:Zb}{b d:Nat}{v:Zc}(h:Ca w b v d)(hB:Zm w.heap.size w W):Ca W b v d:=by
 have hl:=h.lt;obtain⟨st,h⟩:=h;exact⟨st,(hB.block b hl).trans h⟩
theorem Ca.of {w W:Zb}{b d:Nat}{v:Zc}(h:Ca w b v d)(hB:W.heap[b]?=w.heap[b]?):Ca W b v d:=by
 obtain⟨st,h⟩:=h;exact⟨st,hB.trans h⟩
theorem Sl.Cd {α:Type}{S:Nat→Prop}{R:Zb→List Zc→α→Prop}{k b:Nat}{w W:Zb}{v:Zc}{l:List α}(h:Sl S R k w v l)(hB:Cf b w W)(hS:∀x,S x→x<w.heap.size∧x≠b)(hR:∀cs x,R w cs x→R W cs x):Sl S R k W v l:=
 h.Au (hB.same fun x hx=>(hS x hx).2) hR
theorem SI.Cd {S:Nat→Prop}{b:Nat}{w W:Zb}{v:Zc}{l:List Int}(h:SI S w v l)(hB:Cf b w W)(hS:∀x,S x→x<w.heap.size∧x≠b):SI S W v l:=Sl.Cd h hB hS fun _ _ x=>x
theorem KL {S:Nat→Prop}{b:Nat}{w W:Zb}(hB:Cf b w W)(hS:∀x,S x→x<w.heap.size∧x≠b):∀x,S x→x<W.heap.size∧x≠b:=fun x hx=>⟨Zl (hS x hx).1 hB.size,(hS x hx).2⟩
structure Tw (K:Nat→Prop)(w:Zb)where
 v:Zb
 Du:Am K w v
instance {K:Nat→Prop}{w:Zb}:Nonempty (Tw K w):=⟨⟨w,Am.refl K w⟩⟩
theorem Tw.cell {K:Nat→Prop}{w:Zb}(p:Tw K w){a:Addr}{u:Zc}(h:w.cell? a=some u)(hk:¬K a.block):p.v.cell? a=some u:=(p.Du.same (S:=fun b=>¬K b) (fun b hb=>hb)).cell hk h
theorem BH {K:Nat→Prop}{w W:Zb}(h:Am K w W):∃p:Tw K w,W=p.v:=⟨⟨W,h⟩,rfl⟩
theorem Cf.Du {q:Nat}{w W:Zb}(h:Cf q w W){K:Nat→Prop}(hK:K q):Am K w W:=⟨h.os,h.tape,h.output,h.size,fun k hk hn=>h.block k hk fun e=>hn (e▸hK)⟩
theorem jR {w:Zb}{b:Nat}{o:Obj}(h:b<w.heap.size):(w.alloc o).heap[b]?=w.heap[b]? :=zx w o b h
theorem Ex (w:Zb)(v:Zc)(t:Zs):∀j u,[v][j]?=some u→(w.alloc (.cells #[v] t)).cell? ((⟨w.heap.size,0,none⟩:Addr).add j)=some u:=by
 intro j u hj;cases j with
 |zero=>
  cases hj;exact cn _ _ _ rfl
 |succ j=>cases hj
def Own (w:Zb)(base:Nat)(v:Zc)(l:List Int):Prop:=w.ownsRow base 3 1 v l.length (l.map (ZT .i64))
theorem Own.val {w:Zb}{base:Nat}{v:Zc}{l:List Int}(h:Own w base v l)(hp:0<l.length):∃g cap cur,v=.slice (some ⟨g,0,none⟩) l.length cap∧base≤g∧w.heap[g]?=some (.cells cur 3 (0,0))∧l.length≤cap∧cap≤maxLen∧(∀i,i<l.length→cur[i]?=some (.int .i64 (nth l i)))∧
  ∀i x,i<l.length→Own (w.setCell ⟨g,i,none⟩ (.int .i64 x)) base v (l.set i x):=by
 rcases h.2 with⟨_,h2⟩|⟨g,cap,cur,rfl,h2,h3,h4,h5,h6,h7⟩
 ·omega
 ·have hc:∀i,i<l.length→cur[i]?=some (.int .i64 (nth l i)):=fun i hi=>by
   have e:(cur.toList.take (l.length*1))[i]?=(l.map (ZT .i64))[i]? :=by rw[h7]
   rw[ZW (by omega),ZaT,Bo hi]at e;simpa using e
  refine⟨g,cap,cur,rfl,h2,h3,h4,h5,hc,fun i x hi=>⟨by simp,.inr ⟨g,cap,cur.setIfInBounds i (.int .i64 x),by simp,h2,A5 h3 _,by simpa using h4,h5,by simpa using h6,?_⟩⟩⟩;rw[Array.toList_setIfInBounds,List.length_set,List.take_set,h7,List.map_set]
theorem Own.si {w:Zb}{base:Nat}{v:Zc}{l:List Int}(h:Own w base v l):SI (Cy base w) w v l:=dm h
theorem Own.Cd {w W:Zb}{base q:Nat}{v:Zc}{l:List Int}(h:Own w base v l)(hB:Cf q w W)(hq:q<base):Own W base v l:=F2 h hB hq
theorem Own.later {w W:Zb}{base:Nat}{v:Zc}{l:List Int}(h:Own w base v l)(hB:Zm w.heap.size w W):Own W base v l:=H0 h hB
theorem jS {R:Zb→List Zc→Int→Prop}{l:List Int}{news:List Zc}(hn:news.length=l.length*1)(h:∀i x,l[i]?=some x→(news.drop (i*1)).take 1=[.int .i64 x]):news=l.map (ZT .i64):=by
 apply YM;intro i;rw[ZaT];cases hx:l[i]? with
 |none=>
  rw[List.getElem?_eq_none_iff]at hx;rw[List.getElem?_eq_none_iff.2 (by omega)]
  rfl
 |some x=>
  have:=h i x hx;have hi:=(Zo.1 hx).1;have e:((news.drop (i*1)).take 1)[0]?=some (.int .i64 x):=by rw[this];rfl
  rw[ZW (by omega),YA]at e;simpa using e
theorem Tq {S:Nat→Prop}{w:Zb}{v:Zc}{l:List Int}(h:Sl S Ri 1 w v l)(hlen:l.length≤1000):Calls Lp 32 #[v] w fun e w'=>∃u,e=.returned u∧Zm w.heap.size w w'∧Own w' w.heap.size u l:=by
 obtain⟨a,c,rfl,l1,m1⟩:=h.val;obtain⟨i0,hi,Fg,El,EN⟩:=YC Lu;have hu:=CM ZaF;cases a with
 |none=>
  have hl:l=[]:=by
   cases l with
   |nil=>rfl
   |cons x r=>
    obtain⟨a',c',h1,_,_,h4⟩:=h;cases h1;obtain⟨b,o,cs,e,_⟩:=h4 0 x rfl;cases e
  subst hl;go_enter Lp.func32,n32;go_wp2;go_ret;exact⟨_,rfl,bA (Zi _ _),Yq w #[] 0 (Zj _) (Zt _) rfl⟩
 |some ad=>
  obtain⟨news,hn,hR,hc⟩:=Sl.row h (by decide) ad rfl;have h1:=row_one (by decide) hn hR nR;have HC:=Zh hc;have sk:=jS (R:=Ri) hn hR;clear hc hR;go_enter Lp.func32,n32;go_wp2_with (at_builtin;refine ZaV _ rfl _ _ 22 rfl w.heap.size 3 i0 (.int .i64 0) 1 8 hu (D3 hi) Fg El EN rfl (by decide) _ 0 [] rfl (Yq w #[] 0 (Zj _) (Zt _) rfl) ad l.length c news rfl hn (fun j u hj=>ca (HC.out j u hj) _) h1 (by unfold maxLen;omega) (by omega) (by simp) ?_;intro v' w1 Be AG Fi);have hB:Zm w.heap.size w w1:=Br (bA (Zi _ _)) AG (fun k hk=>by cases hk;exact Zj _) (by simp);rw[Ym,zE,sk]at Be;have HO:=Zh Be;clear Be AG Fi;go_ret;exact⟨_,rfl,hB,HO.out⟩
def ag0 (w:Zb)(b:Nat)(lv:Zc)(d:Nat)(c:Aw)(e:Ending)(w':Zb):Prop:=∃(v:Zc) (l:List Int) (d':Nat),e=.returned v∧Cf b w w'∧Ca w' b lv d'∧d'≤d+c.Aa.length∧SI (Cy w.heap.size w') w' v l∧l.length=c.Aa.length∧
 ∀i,i<c.Aa.length→(Aj c.Aa i).low≤nth l i∧((Aj c.Aa i).low≤(Aj c.Aa i).high→nth l i≤(Aj c.Aa i).high)
theorem oI (l:List Int)(x:Int):nth (l++ [x]) l.length=x:=by simp[nth]
theorem sR {l r:List Int}{i:Nat}(h:i<l.length):nth (l++r) i=nth l i:=by simp[nth,zP,zD h]
theorem c30 {S Sn:Nat→Prop}{w:Zb}{v1 v2 v3 v4 v5 lv:Zc}{c:Aw}{nums:List Int}{b d:Nat}(h:RC S w v1 v2 v3 v4 v5 c)(hS:∀x,S x→x<w.heap.size∧x≠b)(hn:SI Sn w lv nums)(GY:∀x,Sn x→x<w.heap.size∧x≠b)(hL:Ca w b lv d)(hd:d+c.Aa.length<4611686018427387904)(Wj:c.Aa.length≤1000)
  (hlo:∀i,i<c.Aa.length→(-1000000≤(Aj c.Aa i).low∧(Aj c.Aa i).low≤1000000)∧-1000000≤(Aj c.Aa i).high∧(Aj c.Aa i).high≤1000000):
  Calls Lp 30 #[.pointer (some ⟨b,0,none⟩),.agg #[v1,v2,v3,v4,v5]] w (ag0 w b lv d c):=by
 obtain⟨a1,c1,rfl,l1,m1⟩:=h.base.val;obtain⟨a2,c2,rfl,l2,m2⟩:=h.Ag.val;obtain⟨a3,c3,rfl,l3,m3⟩:=h.hooks.val;obtain⟨a4,c4,rfl,l4,m4⟩:=h.Aa.val;obtain⟨a5,c5,rfl,l5,m5⟩:=h.now.val;have I3:=DN;obtain⟨i0,hi,Fg,El,EN⟩:=YC Lu;have hu:=CM ZaF;have GN:=hL.lt;go_enter Lp.func30,n30;go_wp2;obtain⟨W,hW⟩:∃W,W=w.alloc (.cells #[.slice a1 c.base.length c1,.slice a2 c.Ag.length c2,.slice a3 c.hooks.length c3,.slice a4 c.Aa.length c4,.slice a5 c.now.length c5] 26):=⟨_,rfl⟩;have hB:Zm w.heap.size w W:=by rw[hW];exact bA (Zi _ _)
 have hX:W.heap[w.heap.size]?=some (.cells #[.slice a1 c.base.length c1,.slice a2 c.Ag.length c2,.slice a3 c.hooks.length c3,.slice a4 c.Aa.length c4,.slice a5 c.now.length c5] 26 (0,0)):=by rw[hW];exact Bv _ _
 rw[←hW];clear hW;go_loopg [5,6] c.Aa.length (fun g v i wr=>∃(k:Nat) (out:List Int) (d':Nat),k≤c.Aa.length∧g=c.Aa.length - k∧i=.int .i64 k∧out.length=k∧(∀j,j<k→(Aj c.Aa j).low≤nth out j∧((Aj c.Aa j).low≤(Aj c.Aa j).high→nth out j≤(Aj c.Aa j).high))∧Own wr (w.heap.size+1) v out∧Cf b w wr∧Ca wr b lv d'∧d'≤d+k∧
  wr.heap[w.heap.size]?=some (.cells #[.slice a1 c.base.length c1,.slice a2 c.Ag.length c2,.slice a3 c.hooks.length c3,.slice a4 c.Aa.length c4,.slice a5 c.now.length c5] 26 (0,0)))
 case atStart=>exact⟨0,[],d,Zt _,rfl,rfl,rfl,fun j hj=>absurd hj (by omega),Yz _ _ _ _,(Cf.refl _ _).below hB,hL.later hB,by omega,hX⟩
 case round=>
  obtain⟨k,out,d',hk,rfl,rfl,hol,hob,AY,hU,jT,OZ,Lg⟩:=hrel;have HOL:=Zh hol;clear hol;by_cases Az:k<c.Aa.length
  ·obtain⟨b4,o4,s2,s3,rfl,S8,x0,x1,x2,x3,x4,hp,ho⟩:=h.Aa.at_ (i:=k) Az
   have vJ:=hU.same (T:=S) (fun x hx=>(hS x hx).2);have y0:=vJ.cell (p:=⟨b4,o4+k*5,none⟩) S8 x0;have y1:=vJ.cell (p:=⟨b4,o4+k*5+1,none⟩) S8 x1;clear x0 x1 x2 x3 x4 hp ho;obtain⟨Wh,Me⟩:=hlo k Az;have amz:=Zh hob;have HX:∃lo hi,lo=(Aj c.Aa k).low∧hi=(Aj c.Aa k).high:=⟨_,_,rfl,rfl⟩;obtain⟨lo,hg,aal,aam⟩:=HX;rw[←aal]at y0 Wh;rw[←aam]at y1 Me;have HE:=Zh (zb aal aam);clear aal aam hob;have Tb:(k:Int)<(c.Aa.length:Int):=by omega
   have aan:(0:Int)≤(k:Int):=by omega
   have hbr:=jT.lt;have aus:=(hS b4 S8).2;have kz:w.heap.size≠b:=by omega
   obtain⟨K,K8⟩:∃K:Nat→Prop,K=fun x=>x=b∨w.heap.size<x:=⟨_,rfl⟩;have pW:K b:=by rw[K8];exact .inl rfl
   have fF:∀x,w.heap.size<x→K x:=fun x hx=>by rw[K8];exact .inr hx
   have oJ:¬K w.heap.size:=by rw[K8];intro x;omega
   have PK:¬K b4:=by rw[K8];intro x;have:=(hS b4 S8).1;omega
   clear K8;have z0:=fun p:Tw K wr=>p.cell (ch (i:=3) Lg (v:=.slice (some ⟨b4,o4,none⟩) c.Aa.length c4) rfl) oJ;have z1:=fun p:Tw K wr=>p.cell y0 PK;have z2:=fun p:Tw K wr=>p.cell y1 PK;obtain⟨va,vc,rfl,_⟩:=AY.si.val;have hzw:=hU.size;have hzb:w.heap.size<wr.heap.size:=(Za.1 Lg).1;have kx:=ch (i:=3) Lg (v:=.slice (some ⟨b4,o4,none⟩) c.Aa.length c4) rfl;go_wp2;clear kx;refine C5 (S:=fun W=>∃p:Tw K wr,W=p.v) [] [(false,14),(false,15),(false,16),(false,17)] [0,1,2,3,4,5,6,7,8,9,10,11,12,13] (by kernel_rfl) (fun _ _ d _ _ h=>by cases d<;>exact h) (by kernel_rfl) (BH (Am.later (Zi _ _).drew)) ?_;refine Bf _ _ (by kernel_rfl) ?_;simp only[zQ,zW,ZY,ZO,ZN]
   repeat (first|go_big_quiet_step (fail)|quiet_step (fail))
   refine Ye ?_;clear z0 z1 z2 y0 y1;change DR _ _ _ _ _ _ _;have hUd:Cf b wr wr.drew:=(Cf.refl b wr).below (Zi _ _).drew;have hn':=(hn.Cd hU GY).later (Zi wr.heap.size wr).drew;refine Ee (f:=61) (args:= #[.pointer (some ⟨b,0,none⟩),.int .i64 lo,.int .i64 hg]) rfl rfl (by go_simp) ((c61 hn' (KL (hU.trans hUd) GY) (jT.later (Zi wr.heap.size wr).drew) (by omega) Wh Me).mono ?_);rintro e w1 ⟨r,d2,rfl,hr,Qe,Tn,hd1⟩;have hUr:=hUd.trans Qe;have NC:Am K wr w1:=hUr.Du pW;refine⟨_,rfl,.inr (BH NC),?_⟩;have oK:=AY.Cd hUr (by omega);have aao:Am K wr (w1.alloc (.cells #[.int .i64 (lo+r)] 3)):=NC.pV (bA (Zi _ _));refine Jv (v:=.slice (some ⟨w1.heap.size,0,none⟩) 1 1) (w':=w1.alloc (.cells #[.int .i64 (lo+r)] 3)) rfl rfl (by go_simp) (.inr (BH aao)) ?_;refine PO rfl rfl ?_;have sS:=hUr.size;refine Zav _ _ _ 22 rfl (w.heap.size+1) 3 i0 (.int .i64 0) 1 8 hu (D3 hi) Fg El EN rfl (by decide) _ out.length (out.map (ZT .i64)) rfl (Zac oK _) ⟨w1.heap.size,0,none⟩ 1 1 [.int .i64 (lo+r)] rfl rfl (Ex _ _ _) (by simp[ZaL]) (by have:=HOL.out;unfold maxLen;omega) (by have:=HOL.out;omega) (by simp;omega) ?_;intro v' w2 Cx AG Fi;have FD:∀q,(Zy va out.length vc).ownBlock=some q→w.heap.size+1≤q:=fun q hq=>(World.ownsRow.lt oK q hq).1;have Sg:Cf b w w2:=((hU.trans hUr).below (bA (Zi _ _))).grown AG (fun q hq=>by have:=FD q hq;omega);have Fa:Am K wr w2:=aao.trans (Am.grown AG fun q hq=>fF q (by have:=FD q hq;omega));refine⟨.inr (BH Fa),?_⟩;refine E7 (v:=v') rfl rfl (by go_simp) (.inr (BH Fa)) ?_;have vK:w2.heap[w.heap.size]?=some (.cells #[.slice a1 c.base.length c1,.slice a2 c.Ag.length c2,.slice a3 c.hooks.length c3,.slice (some ⟨b4,o4,none⟩) c.Aa.length c4,.slice a5 c.now.length c5] 26 (0,0)):=(Fa.block _ hzb oJ).trans Lg;have pX:Ca w2 b lv d2:=Tn.of ((AG.block b (by have:=Tn.lt;simp;omega) (fun e=>by have:=FD b e.symm;omega)).trans (jR Tn.lt));have hO2:Own w2 (w.heap.size+1) v' (out++ [lo+r]):=by unfold Own;rw[ZV,List.map_append];exact Cx
   have HH:=Zh (zb Sg (zb pX (zb hO2 vK)));clear Sg pX hO2 vK Fa aao NC hUr hUd Qe Tn oK Cx AG Fi FD AY hU jT Lg hn';unfold DR
   go_simp
   go_wp2;go_roundg (c.Aa.length - (k+1))
   case rel=>
    obtain⟨q1,q2,q3,q4⟩:=HH.out;refine⟨k+1,out++ [lo+r],d2,Az,rfl,by go_num,by have:=HOL.out;simp;omega,fun j hj=>?_,q3,q1,q2,by omega,q4⟩;obtain⟨e1,e2⟩:=HE.out;by_cases dt:j<k
    ·rw[sR (by have:=HOL.out;omega)]
     exact amz.out j dt
    ·obtain rfl:j=k:=by omega
     rw[show nth (out++ [lo+(r:Int)]) j=lo+r by rw[←HOL.out];exact oI _ _, ←e1, ←e2];exact⟨by omega,fun _=>by omega⟩
   case measure=>omega
  ·have Wk:k=c.Aa.length:=by omega
   subst Wk;have hs:=AY.si;obtain⟨va,vc,rfl,_⟩:=hs.val;have kx:=ch (i:=3) Lg (v:=.slice a4 c.Aa.length c4) rfl;have HO:=Zh hob;have D1:=hU.size;clear hob AY;go_wp2;go_ret;exact⟨_,out,d',rfl,hU,jT,OZ,Sl.imp hs (fun x (hx:Cy (w.heap.size+1) wr x)=>⟨by have:=hx.1;omega,hx.2⟩) (fun _ _ x=>x),HOL.out,HO.out⟩
def TT (n:Nat)(w:Zb)(x:Nat):Prop:=n≤x∧∃cs e,w.heap[x]?=some (.cells cs e (0,0))∧(e=3∨e=64∨e=80)
theorem TT.lt {n:Nat}{w:Zb}{x:Nat}(h:TT n w x):x<w.heap.size:=by
 obtain⟨_,cs,e,h,_⟩:=h;exact(Za.1 h).1
theorem TT.new {n:Nat}{w:Zb}{x:Nat}(h:TT n w x):Cy n w x:=⟨h.1,h.lt⟩
theorem TT.mono {n m:Nat}{w:Zb}{x:Nat}(h:TT n w x)(hm:m≤n):TT m w x:=⟨Zx hm h.1,h.2⟩
theorem TT.not {n:Nat}{w:Zb}{x:Nat}{cs:Array Zc}{e:Zs}(h:TT n w x)(hx:w.heap[x]?=some (.cells cs e (0,0)))(he:e≠3∧e≠64∧e≠80):False:=by
 obtain⟨_,cs',e',h1,h2⟩:=h;rw[hx]at h1;cases h1;rcases h2 with h|h|h
 ·exact he.1 h
 ·exact he.2.1 h
 ·exact he.2.2 h
theorem TT.of {n:Nat}{w W:Zb}{x:Nat}(h:TT n w x)(hx:W.heap[x]?=w.heap[x]?):TT n W x:=⟨h.1,by rw[hx];exact h.2⟩
section
variable {n:Nat}{A B:Zb}{T:Nat→Prop}
theorem QE {u:Zc}{l:List Int}(h:SI (TT n A) A u l)(hT:Am T A B)(hx:∀x,TT n A x→¬T x):SI (TT n B) B u l:=
 Sl.imp (h.Au (hT.same hx)) (fun b hb=>hb.of (hT.block b hb.lt (hx b hb))) fun _ _ x=>x
theorem kI {u:Zc}{l:List (Int×Int)}(h:SP (TT n A) A u l)(hT:Am T A B)(hx:∀x,TT n A x→¬T x):SP (TT n B) B u l:=
 Sl.imp (SP.Au h (hT.same hx)) (fun b hb=>hb.of (hT.block b hb.lt (hx b hb))) fun _ _ x=>x
theorem vL {cs:List Zc}{s:Ax}(h:Rs (TT n A) A cs s)(hT:Am T A B)(hx:∀x,TT n A x→¬T x):Rs (TT n B) B cs s:=by
 obtain⟨v2,v3,h1,h2,h3⟩:=h;exact⟨v2,v3,h1,kI h2 hT hx,QE h3 hT hx⟩
theorem Ea {u:Zc}{l:List Int}(h:SI (TT n A) A u l)(hB:Zm A.heap.size A B):SI (TT n B) B u l:=QE (T:=fun _=>False) h ((Am.later hB).mono fun _ x=>x) fun _ _ x=>x
theorem Mt {u:Zc}{l:List (Int×Int)}(h:SP (TT n A) A u l)(hB:Zm A.heap.size A B):SP (TT n B) B u l:=kI (T:=fun _=>False) h ((Am.later hB).mono fun _ x=>x) fun _ _ x=>x
theorem Nr {m:Nat}{u:Zc}{l:List Int}(h:SI (TT n A) A u l)(hm:m≤n):SI (TT m A) A u l:=Sl.imp h (fun _ hb=>hb.mono hm) fun _ _ x=>x
theorem VT {m:Nat}{u:Zc}{l:List (Int×Int)}(h:SP (TT n A) A u l)(hm:m≤n):SP (TT m A) A u l:=Sl.imp h (fun _ hb=>hb.mono hm) fun _ _ x=>x
end
theorem Own.tt {w:Zb}{base:Nat}{v:Zc}{l:List Int}(h:Own w base v l):SI (TT base w) w v l:=
 Sl.imp (Mr (R:=Ri) (by decide) h fun i x hx=>by
  rw[Nat.mul_one];obtain⟨hi,e⟩:=Zo.1 hx;rw[Z4 (by simpa using hi)];simp[Ri,e]) (fun b hb=>⟨hb.1.1,by obtain⟨cs,h⟩:=hb.2;exact⟨cs,3,h,.inl rfl⟩⟩) fun _ _ x=>x
theorem Own.mono {w:Zb}{base m:Nat}{v:Zc}{l:List Int}(h:Own w base v l)(hm:m≤base):Own w m v l:=by
 refine⟨h.1,?_⟩;rcases h.2 with h1|⟨g,cap,cur,h1,h2,h3⟩
 ·exact .inl h1
 ·exact .inr ⟨g,cap,cur,h1,Zx hm h2,h3⟩
theorem Own.Du {A B:Zb}{base:Nat}{v:Zc}{l:List Int}{T:Nat→Prop}(h:Own A base v l)(hT:Am T A B)(hx:∀b,base≤b→¬T b):Own B base v l:=DF hT hx h
theorem amC {S:Nat→Prop}{w:Zb}{v:Zc}{l:List (Int×Int)}(h:Sl S Rp 2 w v l)(hlen:l.length≤1000):Calls Lp 40 #[v] w fun e w'=>∃u,e=.returned u∧Zm w.heap.size w w'∧SP (TT w.heap.size w') w' u l:=by
 obtain⟨a,c,rfl,l1,m1⟩:=h.val;obtain⟨i0,hi,Fg,El,EN⟩:=YC dv;have hu:=CM Tryz.underlying23;cases a with
 |none=>
  have hl:l=[]:=by
   cases l with
   |nil=>rfl
   |cons x r=>
    obtain⟨a',c',h1,_,_,h4⟩:=h;cases h1;obtain⟨b,o,cs,e,_⟩:=h4 0 x rfl;cases e
  subst hl;go_enter Lp.func40,n40;go_wp2;go_ret;exact⟨_,rfl,bA (Zi _ _),_,0,rfl,Zj _,Zt _,fun i x hx=>by cases hx⟩
 |some ad=>
  obtain⟨news,hn,hR,hc⟩:=Sl.row h (by decide) ad rfl;have h1:=row_one (by decide) hn hR au;have HC:=Zh hc;have HR:=Zh hR;clear hc hR;go_enter Lp.func40,n40;go_wp2_with (at_builtin;refine ZaV _ rfl _ _ 23 rfl w.heap.size 80 i0 (.agg #[.int .i64 0,.int .i64 0]) 2 16 hu (D3 hi) Fg El EN rfl (by decide) _ 0 [] rfl (Yq w #[] 0 (Zj _) (Zt _) rfl) ad l.length c news rfl hn (fun j u hj=>ca (HC.out j u hj) _) h1 (by unfold maxLen;omega) (by omega) (by simp) ?_;intro v' w1 Be AG Fi);have hB:Zm w.heap.size w w1:=Br (bA (Zi _ _)) AG (fun k hk=>by cases hk;exact Zj _) (by simp);rw[Ym,zE]at Be;have U2:SP (TT w.heap.size w1) w1 v' l:=Sl.imp (Mr (by decide) Be fun i x hx=>HR.out i x hx) (fun b hb=>⟨hb.1.1,by obtain⟨cs,h⟩:=hb.2;exact⟨cs,80,h,.inr (.inr rfl)⟩⟩) fun _ _ x=>x;clear Be AG Fi;go_ret;exact⟨_,rfl,hB,U2⟩
theorem amD {S:Nat→Prop}{w:Zb}{v2 v3:Zc}{lo hi left:Int}{Ak:List (Int×Int)}{over:List Int}(hp:SP S w v2 Ak)(ho:SI S w v3 over)(h2:Ak.length≤1000)(h3:over.length≤1000):
  Calls Lp 86 #[.agg #[.int .i64 lo,.int .i64 hi,v2,v3,.int .i64 left]] w fun e w'=>∃u2 u3,e=.returned (.agg #[.int .i64 lo,.int .i64 hi,u2,u3,.int .i64 left])∧Zm w.heap.size w w'∧SP (TT w.heap.size w') w' u2 Ak∧Own w' w.heap.size u3 over:=by
 obtain⟨a2,c2,rfl,l2,m2⟩:=hp.val;obtain⟨a3,c3,rfl,l3,m3⟩:=ho.val;have I3:=DN;go_enter Lp.func86,n86;go_wp2;obtain⟨W3,Hd⟩:∃W3,W3=(w.alloc (.cells #[.int .i64 lo,.int .i64 hi,.slice a2 Ak.length c2,.slice a3 over.length c3,.int .i64 left] 62)).alloc (.cells #[.int .i64 0,.int .i64 0,.slice none 0 0,.slice none 0 0,.int .i64 0] 62):=⟨_,rfl⟩;have BA:Zm w.heap.size w W3:=by rw[Hd];exact bA (bA (Zi _ _))
 have F1:W3.heap[w.heap.size]?=some (.cells #[.int .i64 lo,.int .i64 hi,.slice a2 Ak.length c2,.slice a3 over.length c3,.int .i64 left] 62 (0,0)):=by rw[Hd];exact Bm (Bv _ _) _
 have Sd:W3.heap[w.heap.size+1]?=some (.cells #[.int .i64 0,.int .i64 0,.slice none 0 0,.slice none 0 0,.int .i64 0] 62 (0,0)):=by rw[Hd];exact JL _ _ _
 rw[←Hd];clear Hd;have z2:=fun p=>Aq p (ch (i:=2) F1 (v:=.slice a2 Ak.length c2) rfl);have z3:=fun p=>Aq p (ch (i:=3) F1 (v:=.slice a3 over.length c3) rfl);refine C5 (S:=fun W=>∃p,W=calm W3 p) [7,8,9,10] [(false,0),(false,3),(true,7),(false,6),(false,8),(false,9),(false,10)] [1,2,4,5] (by kernel_rfl) (fun _ _ d _ _ h=>by cases d<;>exact h) (by kernel_rfl) (AK (Zi _ _).drew) ?_;refine Bf _ _ (by kernel_rfl) ?_;simp only[zQ,zW,ZY,ZO,ZN]
 repeat (first|go_big_quiet_step (fail)|quiet_step (fail))
 refine Ye ?_;clear z2 z3;change DR _ _ _ _ _ _ _;have sT:Zm W3.heap.size W3 (W3.drew.alloc (.cells #[] 64)):=bA (Zi _ _).drew;refine Jv (v:=.slice (some ⟨W3.heap.size,0,none⟩) 0 0) (w':=W3.drew.alloc (.cells #[] 64)) rfl rfl (by go_simp) (.inr (AK sT)) ?_;cases ha2:a2 with
 |none=>
  subst ha2;have hl:Ak=[]:=by
   cases Ak with
   |nil=>rfl
   |cons x r=>obtain⟨b,o,e,_⟩:=hp.at_ (i:=0) (by simp);cases e
  subst hl;refine Jv (v:=.slice (some ⟨W3.heap.size,0,none⟩) 0 0) (w':=W3.drew.alloc (.cells #[] 64)) rfl rfl (by go_simp) (.inr (AK sT)) ?_;obtain⟨W5,I6⟩:∃W5,W5=W3.drew.alloc (.cells #[] 64):=⟨_,rfl⟩;obtain⟨u2,dR⟩:∃u2:Zc,u2=.slice (some ⟨W3.heap.size,0,none⟩) 0 0:=⟨_,rfl⟩;have KB:SP (TT W3.heap.size W5) W5 u2 []:=⟨_,0,dR,Zj _,Zt _,fun i x hx=>by cases hx⟩;have Ck:Zm W3.heap.size W3 W5:=by rw[I6];exact sT
  rw[←I6, ←dR];clear I6 dR;have Sy:=BA.trans (Ck.mono BA.size);refine Nd (v:=.pointer (some ⟨w.heap.size,2,none⟩)) rfl rfl (fun w=>by go_simp) ?_;refine Ee (f:=32) (args:= #[.slice a3 over.length c3]) rfl rfl (by go_simp) ((Tq (ho.later Sy) h3).mono ?_);rintro e W6 ⟨u3,rfl,DQ,Mx⟩;have Jy:=Ck.trans (DQ.mono Ck.size);refine⟨u3,rfl,.inr (AK Jy),?_⟩;obtain⟨p2,d2,rfl,_⟩:=KB.val;obtain⟨p3,d3,rfl,_⟩:=Mx.si.val;have Qg:=BA.trans (Jy.mono BA.size);have I8:=(Jy.block _ (Za.1 F1).1).trans F1;have Ik:=(Jy.block _ (Za.1 Sd).1).trans Sd;have Tc:w.heap.size+1<W3.heap.size:=(Za.1 Sd).1;have pT:W3.heap.size≤W5.heap.size:=Ck.size;have n2:SP (TT W3.heap.size W6) W6 (.slice p2 0 d2) []:=Mt KB DQ;have n3:Own W6 W3.heap.size (.slice p3 over.length d3) over:=Mx.mono pT;refine K2 _ _ _ (by kernel_rfl) (fun x hx w=>.inl ?_) ?_
  ·revert x;decide
  simp only[F0,ZY,ZO,ZN];have g0:=ch (i:=0) I8 (v:=.int .i64 lo) rfl;have g1:=ch (i:=1) I8 (v:=.int .i64 hi) rfl;have g2:=ch (i:=2) I8 (v:=.slice none 0 c2) rfl;have g3:=ch (i:=3) I8 (v:=.slice a3 over.length c3) rfl;have g4:=ch (i:=4) I8 (v:=.int .i64 left) rfl;have f2:=cf (i:=2) I8;have f3:=cf (i:=3) I8;have x0:=ch (i:=0) Ik (v:=.int .i64 0) rfl;have x1:=ch (i:=1) Ik (v:=.int .i64 0) rfl;have x2:=ch (i:=2) Ik (v:=.slice none 0 0) rfl;have x3:=ch (i:=3) Ik (v:=.slice none 0 0) rfl;have x4:=ch (i:=4) Ik (v:=.int .i64 0) rfl;have y0:=cf (i:=0) Ik;have y1:=cf (i:=1) Ik;have y2:=cf (i:=2) Ik;have y3:=cf (i:=3) Ik;have y4:=cf (i:=4) Ik;clear DQ KB Mx;go_wp2;refine ZX (v:=.agg #[.int .i64 lo,.int .i64 hi,.slice p2 0 d2,.slice p3 over.length d3,.int .i64 left]) (by rw[A3 rfl];go_simp) rfl ?_;have key:∀X,Zm w.heap.size w X→Am (fun x=>x<W3.heap.size) W6 X→∃u2 u3,Ending.returned (.agg #[.int .i64 lo,.int .i64 hi,.slice p2 0 d2,.slice p3 over.length d3,.int .i64 left])=.returned (.agg #[.int .i64 lo,.int .i64 hi,u2,u3,.int .i64 left])∧Zm w.heap.size w X∧SP (TT w.heap.size X) X u2 []∧Own X w.heap.size u3 over:=fun X NF OD=>
   ⟨_,_,rfl,NF,VT (kI n2 OD fun x hx h=>by have:=hx.1;omega) (by omega),(n3.Du OD fun x hx h=>by omega).mono (by omega)⟩
  refine key _ ?_ ?_
  ·repeat (with_reducible first|exact Qg|(refine bS ?_ (by omega)))
  ·repeat (with_reducible first|exact Am.refl _ _|(refine Am.set ?_ (show _<_ by omega)))
 |some ad=>
  obtain⟨news,hn,hR,hc⟩:=Sl.row hp (by decide) ad ha2;have h1:=row_one (by decide) hn hR au;obtain⟨i0,Df,Fg,El,EN⟩:=YC VC;have hu:=CM Tryz.underlying60;refine PO rfl rfl ?_;refine Zav _ _ _ 60 rfl W3.heap.size 64 i0 (.agg #[.int .i64 0,.int .i64 0]) 2 16 hu (D3 Df) Fg El EN rfl (by decide) _ 0 [] rfl (Yq W3.drew #[] 0 (Zj _) (Zt _) rfl) ad Ak.length c2 news (by rw[←ha2];rfl) hn (fun j u hj=>?_) h1 (by unfold maxLen;omega) (by omega) (by simp) ?_
  ·exact ca (show W3.cell? _=_ from(BA.cell (ZH w _ (hc j u hj))).trans (hc j u hj)) _
  intro u2 W5 AY AG Fi;have Ck:Zm W3.heap.size W3 W5:=Br sT AG (fun k hk=>by cases hk;exact Zj _) (by simp);refine⟨.inr (AK Ck),?_⟩;have KB:SP (TT W3.heap.size W5) W5 u2 Ak:=Sl.imp (Mr (by decide) (by rw[Ym,zE]at AY;exact AY) (fun i x hx=>hR i x hx)) (fun b hb=>⟨hb.1.1,by obtain⟨cs,h⟩:=hb.2;exact⟨cs,64,h,.inr (.inl rfl)⟩⟩) fun _ _ x=>x;clear AY AG Fi;have Sy:=BA.trans (Ck.mono BA.size);refine Nd (v:=.pointer (some ⟨w.heap.size,2,none⟩)) rfl rfl (fun w=>by go_simp) ?_;refine Ee (f:=32) (args:= #[.slice a3 over.length c3]) rfl rfl (by go_simp) ((Tq (ho.later Sy) h3).mono ?_);rintro e W6 ⟨u3,rfl,DQ,Mx⟩;have Jy:=Ck.trans (DQ.mono Ck.size);refine⟨u3,rfl,.inr (AK Jy),?_⟩;obtain⟨p2,d2,rfl,_⟩:=KB.val;obtain⟨p3,d3,rfl,_⟩:=Mx.si.val;have Qg:=BA.trans (Jy.mono BA.size);have I8:=(Jy.block _ (Za.1 F1).1).trans F1;have Ik:=(Jy.block _ (Za.1 Sd).1).trans Sd;have Tc:w.heap.size+1<W3.heap.size:=(Za.1 Sd).1;have pT:W3.heap.size≤W5.heap.size:=Ck.size;have n2:SP (TT W3.heap.size W6) W6 (.slice p2 Ak.length d2) Ak:=Mt KB DQ;have n3:Own W6 W3.heap.size (.slice p3 over.length d3) over:=Mx.mono pT;refine K2 _ _ _ (by kernel_rfl) (fun x hx w=>.inl ?_) ?_
  ·revert x;decide
  simp only[F0,ZY,ZO,ZN];have g0:=ch (i:=0) I8 (v:=.int .i64 lo) rfl;have g1:=ch (i:=1) I8 (v:=.int .i64 hi) rfl;have g2:=ch (i:=2) I8 (v:=.slice a2 Ak.length c2) rfl;have g3:=ch (i:=3) I8 (v:=.slice a3 over.length c3) rfl;have g4:=ch (i:=4) I8 (v:=.int .i64 left) rfl;have f2:=cf (i:=2) I8;have f3:=cf (i:=3) I8;have x0:=ch (i:=0) Ik (v:=.int .i64 0) rfl;have x1:=ch (i:=1) Ik (v:=.int .i64 0) rfl;have x2:=ch (i:=2) Ik (v:=.slice none 0 0) rfl;have x3:=ch (i:=3) Ik (v:=.slice none 0 0) rfl;have x4:=ch (i:=4) Ik (v:=.int .i64 0) rfl;have y0:=cf (i:=0) Ik;have y1:=cf (i:=1) Ik;have y2:=cf (i:=2) Ik;have y3:=cf (i:=3) Ik;have y4:=cf (i:=4) Ik;clear DQ KB Mx;go_wp2;refine ZX (v:=.agg #[.int .i64 lo,.int .i64 hi,.slice p2 Ak.length d2,.slice p3 over.length d3,.int .i64 left]) (by rw[A3 rfl];go_simp) rfl ?_;have key:∀X,Zm w.heap.size w X→Am (fun x=>x<W3.heap.size) W6 X→∃u2 u3,Ending.returned (.agg #[.int .i64 lo,.int .i64 hi,.slice p2 Ak.length d2,.slice p3 over.length d3,.int .i64 left])=.returned (.agg #[.int .i64 lo,.int .i64 hi,u2,u3,.int .i64 left])∧Zm w.heap.size w X∧SP (TT w.heap.size X) X u2 Ak∧Own X w.heap.size u3 over:=fun X NF OD=>
   ⟨_,_,rfl,NF,VT (kI n2 OD fun x hx h=>by have:=hx.1;omega) (by omega),(n3.Du OD fun x hx h=>by omega).mono (by omega)⟩
  refine key _ ?_ ?_
  ·repeat (with_reducible first|exact Qg|(refine bS ?_ (by omega)))
  ·repeat (with_reducible first|exact Am.refl _ _|(refine Am.set ?_ (show _<_ by omega)))
def En (n:Nat)(w:Zb)(base:Nat)(v:Zc)(l:List Ax):Prop:=∃vals,w.ownsRow base 62 5 v l.length vals∧∀(i:Nat) (x:Ax),l[i]?=some x→Rs (TT n w) w ((vals.drop (i*5)).take 5) x
theorem En.Du {n base:Nat}{A B:Zb}{v:Zc}{l:List Ax}{T:Nat→Prop}(h:En n A base v l)(hT:Am T A B)(hx:∀x,TT n A x→¬T x)(hg:∀g,v.ownBlock=some g→¬T g):En n B base v l:=by
 obtain⟨vals,h1,h2⟩:=h;refine⟨vals,⟨h1.1,?_⟩,fun i x hi=>vL (h2 i x hi) hT hx⟩;rcases h1.2 with h|⟨g,cap,cur,e,h3,h4,h5⟩
 ·exact .inl h
 ·exact .inr ⟨g,cap,cur,e,h3,(hT.block g (Za.1 h4).1 (hg g (by rw[e];rfl))).trans h4,h5⟩
theorem En.later {n base:Nat}{A B:Zb}{v:Zc}{l:List Ax}(h:En n A base v l)(hB:Zm A.heap.size A B):En n B base v l:=h.Du (T:=fun _=>False) ((Am.later hB).mono fun _ x=>x) (fun _ _ x=>x) fun _ _ x=>x
theorem En.val {n base:Nat}{w:Zb}{v:Zc}{l:List Ax}(h:En n w base v l):∃a c,v=.slice a l.length c∧l.length≤c∧c≤maxLen:=by
 obtain⟨vals,h1,_⟩:=h;rcases h1.2 with⟨e,h2⟩|⟨g,cap,cur,e,h3,h4,h5,h6,_⟩
 ·exact⟨none,0,by rw[e,h2],by omega,Zt _⟩
 ·exact⟨_,cap,e,h5,h6⟩
theorem En.own {n base:Nat}{w:Zb}{v:Zc}{l:List Ax}(h:En n w base v l):∀g,v.ownBlock=some g→base≤g∧∃cs,w.heap[g]?=some (.cells cs 62 (0,0)):=by
 obtain⟨vals,h1,_⟩:=h;intro g hg;rcases h1.2 with⟨e,_⟩|⟨g',cap,cur,e,h3,h4,h5⟩
 ·rw[e]at hg;cases hg
 ·rw[e]at hg
  cases hg;exact⟨h3,cur,h4⟩
theorem En.ss {n base:Nat}{w:Zb}{v:Zc}{l:List Ax}(h:En n w base v l)(hn:n≤base):SS (Cy n w) w v l:=by
 obtain⟨vals,h1,h2⟩:=h;refine Sl.imp (Ov (R:=Rs (Cy n w)) (by decide) h1 fun i x hx=>?_) (fun b hb=>⟨Zx hn hb.1,hb.2⟩) fun _ _ x=>x;obtain⟨v2,v3,e,x2,x3⟩:=h2 i x hx;exact⟨v2,v3,e,Sl.imp x2 (fun b hb=>hb.new) fun _ _ x=>x,Sl.imp x3 (fun b hb=>hb.new) fun _ _ x=>x⟩
theorem En.snoc {n base:Nat}{B:Zb}{v':Zc}{l:List Ax}{s:Ax}{vals cells:List Zc}(h2:∀(i:Nat) (x:Ax),l[i]?=some x→Rs (TT n B) B ((vals.drop (i*5)).take 5) x)(hl:vals.length=l.length*5)(hc:cells.length=5)(hs:Rs (TT n B) B cells s)(ho:B.ownsRow base 62 5 v' (l.length+1) (vals++cells)):En n B base v' (l++ [s]):=by
 refine⟨vals++cells,by rw[ZV];exact ho,fun i x hi=>?_⟩;by_cases h:i<l.length
 ·rw[zD h]at hi
  have:=h2 i x hi;rwa[List.drop_append_of_le_length (by omega),List.take_append_of_le_length (by simp;omega)]
 ·have iV:=(Zo.1 hi).1
  rw[ZV,zK,zY]at iV;obtain rfl:i=l.length:=by omega
  rw[List.getElem?_concat_length]at hi;cases hi;rw[←hl,List.drop_left,List.take_of_length_le (by omega)];exact hs
structure CT (n:Nat)(w:Zb)(u1 u2 u3 u4 u5:Zc)(c:Aw):Prop where
 base:SI (TT n w) w u1 c.base
 Ag:SP (TT n w) w u2 c.Ag
 hooks:SI (TT n w) w u3 c.hooks
 now:SI (TT n w) w u5 c.now
 row:En n w n u4 c.Aa
theorem CT.rc {n:Nat}{w:Zb}{u1 u2 u3 u4 u5:Zc}{c:Aw}(h:CT n w u1 u2 u3 u4 u5 c):RC (Cy n w) w u1 u2 u3 u4 u5 c:=
 ⟨Sl.imp h.base (fun b hb=>hb.new) fun _ _ x=>x,Sl.imp h.Ag (fun b hb=>hb.new) fun _ _ x=>x,Sl.imp h.hooks (fun b hb=>hb.new) fun _ _ x=>x,h.row.ss (Zj _),Sl.imp h.now (fun b hb=>hb.new) fun _ _ x=>x⟩
theorem CT.Du {n:Nat}{A B:Zb}{u1 u2 u3 u4 u5:Zc}{c:Aw}{T:Nat→Prop}(h:CT n A u1 u2 u3 u4 u5 c)(hT:Am T A B)(hx:∀x,TT n A x→¬T x)(hg:∀g,u4.ownBlock=some g→¬T g):CT n B u1 u2 u3 u4 u5 c:=
 ⟨QE h.base hT hx,kI h.Ag hT hx,QE h.hooks hT hx,QE h.now hT hx,h.row.Du hT hx hg⟩
def QF (w:Zb)(c:Aw)(e:Ending)(w':Zb):Prop:=∃u1 u2 u3 u4 u5,e=.returned (.agg #[u1,u2,u3,u4,u5])∧Zm w.heap.size w w'∧CT w.heap.size w' u1 u2 u3 u4 u5 c
theorem En.mono {n m:Nat}{w:Zb}{v:Zc}{l:List Ax}(h:En n w n v l)(hm:m≤n):En m w m v l:=by
 obtain⟨vals,h1,h2⟩:=h;refine⟨vals,⟨h1.1,?_⟩,fun i x hi=>?_⟩
 ·rcases h1.2 with h|⟨g,cap,cur,e,h3,h4⟩
  ·exact .inl h
  ·exact .inr ⟨g,cap,cur,e,Zx hm h3,h4⟩
 ·obtain⟨v2,v3,e,x2,x3⟩:=h2 i x hi
  exact⟨v2,v3,e,VT x2 hm,Nr x3 hm⟩
theorem K9 (w:Zb)(l:List Zc)(t:Zs):∀j u,l[j]?=some u→(w.alloc (.cells l.toArray t)).cell? ((⟨w.heap.size,0,none⟩:Addr).add j)=some u:=by
 intro j u hj;rw[show(⟨w.heap.size,0,none⟩:Addr).add j=⟨w.heap.size,j,none⟩ by unfold Addr.add;split<;>simp_all];exact cn _ _ _ (by simpa using hj)
structure CR (w:Zb)(n0 q:Nat)(xs:Array Zc)(s1 s2 s3 s5:Zc)(c:Aw)(k:Nat)(v4:Zc)(wr:Zb):Prop where
 below:Zm w.heap.size w wr
 box:wr.heap[w.heap.size]?=some (.cells xs 26 (0,0))
 res:wr.heap[w.heap.size+1]?=some (.cells #[.slice none 0 0,.slice none 0 0,.slice none 0 0,.slice none 0 0,.slice none 0 0] 26 (0,0))
 qx:wr.heap[q]?=some (.cells #[s1,s2,s3,v4,s5] 26 (0,0))
 base:SI (TT n0 wr) wr s1 c.base
 Ag:SP (TT n0 wr) wr s2 c.Ag
 hooks:SI (TT n0 wr) wr s3 c.hooks
 now:SI (TT n0 wr) wr s5 c.now
 row:En n0 wr n0 v4 (c.Aa.take k)
 z:n0≤wr.heap.size
theorem amE {S:Nat→Prop}{w:Zb}{v1 v2 v3 v4 v5:Zc}{c:Aw}(h:RC S w v1 v2 v3 v4 v5 c)(hS:∀b,S b→b<w.heap.size)(fO:c.base.length≤1000)(hle:c.Ag.length≤1000)(yV:c.hooks.length≤1000)(Wj:c.Aa.length≤1000)(Vi:c.now.length≤1000)(vu:∀i,i<c.Aa.length→(Aj c.Aa i).Ak.length≤1000∧(Aj c.Aa i).over.length≤1000):
  Calls Lp 33 #[.agg #[v1,v2,v3,v4,v5]] w (QF w c):=by
 obtain⟨a1,c1,rfl,l1,m1⟩:=h.base.val;obtain⟨a2,c2,rfl,l2,m2⟩:=h.Ag.val;obtain⟨a3,c3,rfl,l3,m3⟩:=h.hooks.val;obtain⟨a4,c4,rfl,l4,m4⟩:=h.Aa.val;obtain⟨a5,c5,rfl,l5,m5⟩:=h.now.val;have I3:=DN;go_enter Lp.func33,n33;go_wp2;obtain⟨W3,Hd⟩:∃W3,W3=(w.alloc (.cells #[.slice a1 c.base.length c1,.slice a2 c.Ag.length c2,.slice a3 c.hooks.length c3,.slice a4 c.Aa.length c4,.slice a5 c.now.length c5] 26)).alloc (.cells #[.slice none 0 0,.slice none 0 0,.slice none 0 0,.slice none 0 0,.slice none 0 0] 26):=⟨_,rfl⟩;have BA:Zm w.heap.size w W3:=by rw[Hd];exact bA (bA (Zi _ _))
 have F1:W3.heap[w.heap.size]?=some (.cells #[.slice a1 c.base.length c1,.slice a2 c.Ag.length c2,.slice a3 c.hooks.length c3,.slice a4 c.Aa.length c4,.slice a5 c.now.length c5] 26 (0,0)):=by rw[Hd];exact Bm (Bv _ _) _
 have Sd:W3.heap[w.heap.size+1]?=some (.cells #[.slice none 0 0,.slice none 0 0,.slice none 0 0,.slice none 0 0,.slice none 0 0] 26 (0,0)):=by rw[Hd];exact JL _ _ _
 rw[←Hd];clear Hd;have hm3:w.heap.size+1<W3.heap.size:=(Za.1 Sd).1;refine Code.wp_mono (Q:=fun e a' V=>e=.normal∧∃(q:Nat) (p1 p2 p3 p5:Option Addr) (d1 d2 d3 d5:Nat) (x5 x6 x7 x8 x9 iO T9 x12 Oj Mv Mw L_ Ma:Zc),a'= {tmps:= #[.agg #[.slice a1 c.base.length c1,.slice a2 c.Ag.length c2,.slice a3 c.hooks.length c3,.slice a4 c.Aa.length c4,.slice a5 c.now.length c5],.pointer (some ⟨w.heap.size,0,none⟩),.pointer (some ⟨w.heap.size+1,0,none⟩),.pointer (some ⟨q,0,none⟩),Ze,x5,x6,x7,x8,x9,iO,T9,x12,Oj,Mv,Mw,L_,Ma,Ze,Ze,Ze,Ze,Ze,Ze,Ze,Ze,Ze,Ze,Ze,Ze,Ze,Ze,Ze,Ze,Ze,Ze,Ze],defers:=[]}∧w.heap.size+1<q∧Zm W3.heap.size W3 V∧V.heap[q]?=some (.cells #[.slice p1 c.base.length d1,.slice p2 c.Ag.length d2,.slice p3 c.hooks.length d3,.slice none 0 0,.slice p5 c.now.length d5] 26 (0,0))∧SI (TT W3.heap.size V) V (.slice p1 c.base.length d1) c.base∧SP (TT W3.heap.size V) V (.slice p2 c.Ag.length d2) c.Ag∧SI (TT W3.heap.size V) V (.slice p3 c.hooks.length d3) c.hooks∧SI (TT W3.heap.size V) V (.slice p5 c.now.length d5) c.now) ?rest ?first
 case first=>
  have z0:=fun p=>Aq p (ch (i:=0) F1 (v:=.slice a1 c.base.length c1) rfl);have z1:=fun p=>Aq p (ch (i:=1) F1 (v:=.slice a2 c.Ag.length c2) rfl);have z2:=fun p=>Aq p (ch (i:=2) F1 (v:=.slice a3 c.hooks.length c3) rfl);have z4:=fun p=>Aq p (ch (i:=4) F1 (v:=.slice a5 c.now.length c5) rfl);refine GU (S:=fun W=>∃p,W=calm W3 p) [0,1,3,4,6,7,9,10] 7 #[true,true,false,true,true,false,true,true,false,true,true,false,false,false,false] (by kernel_rfl) (fun _ _ _ _ _ h=>nomatch h.1) (by kernel_rfl) (AK (Zi _ _).drew) ?_;refine Bf _ _ (by kernel_rfl) ?_;simp only[zQ,zW,ZY,ZO,ZN]
  repeat (first|go_big_quiet_step (fail)|quiet_step (fail))
  refine Ye ?_;clear z0 z1 z2 z4;change Co _ _ _ _ _ _ _ _ _;obtain⟨V,hV⟩:∃V,V=W3.drew:=⟨_,rfl⟩;have hX:Zm W3.heap.size W3 V:=by rw[hV];exact(Zi _ _).drew
  rw[←hV];clear hV;have hq:=Yo;have n1:=Yo;have n2:=Yo;have n3:=Yo;have n5:=Yo;refine AJ [2,13] (by kernel_rfl) (by simp) (HN ?gA2 ?gB2)
  case' gB2=>
   refine EI (v:=.pointer (some ⟨V.heap.size,0,none⟩)) (w':=V.alloc (.cells #[.slice none 0 0,.slice none 0 0,.slice none 0 0,.slice none 0 0,.slice none 0 0] 26)) rfl rfl (by go_simp) ?_;obtain⟨V',K_⟩:∃V',V'=V.alloc (.cells #[.slice none 0 0,.slice none 0 0,.slice none 0 0,.slice none 0 0,.slice none 0 0] 26):=⟨_,rfl⟩;have DT:Zm V.heap.size V V':=by rw[K_];exact bA (Zi _ _)
   have hq:V'.heap[V.heap.size]?=some (.cells #[.slice none 0 0,.slice none 0 0,.slice none 0 0,.slice none 0 0,.slice none 0 0] 26 (0,0)):=by rw[K_];exact Bv _ _
   have UB:=hX.size;obtain⟨q,OE⟩:∃q,q=V.heap.size:=⟨_,rfl⟩;rw[←OE]at hq UB
   try (have n1:=Ea n1 DT)
   try (have n2:=Mt n2 DT)
   try (have n3:=Ea n3 DT)
   try (have n5:=Ea n5 DT)
   have hX:=hX.trans (DT.mono hX.size);rw[←K_, ←OE];refine⟨AK hX,?_⟩;clear DT OE K_;obtain⟨V,oL⟩:∃V2,V2=V':=⟨_,rfl⟩;subst oL;refine AJ [2] (by kernel_rfl) (by simp) (BB ?_)
  all_goals
   refine Dw (f:=32) (args:= #[.slice a1 c.base.length c1]) rfl rfl (by go_simp) ((Tq (h.later (BA.trans (hX.mono BA.size))).base fO).mono ?_);rintro e V ⟨u,rfl,DT,hu⟩;have n1:=Nr hu.tt hX.size;obtain⟨p1,d1,rfl,_,_⟩:=n1.val;clear hu
   try (have hq:=(DT.block _ (Za.1 hq).1).trans hq)
   try (have n2:=Mt n2 DT)
   try (have n3:=Ea n3 DT)
   try (have n5:=Ea n5 DT)
   have hX:=hX.trans (DT.mono hX.size);refine .inl ⟨_,rfl,AK hX,?_⟩;clear DT
  all_goals first
   |(have oa:=Za.1 hq;clear oa;refine AJ [5] (by kernel_rfl) (by simp) (BB ?_))
   |(refine AJ [5,13] (by kernel_rfl) (by simp) (HN ?gA5 ?gB5)
     case' gB5=>
      refine EI (v:=.pointer (some ⟨V.heap.size,0,none⟩)) (w':=V.alloc (.cells #[.slice none 0 0,.slice none 0 0,.slice none 0 0,.slice none 0 0,.slice none 0 0] 26)) rfl rfl (by go_simp) ?_;obtain⟨V',K_⟩:∃V',V'=V.alloc (.cells #[.slice none 0 0,.slice none 0 0,.slice none 0 0,.slice none 0 0,.slice none 0 0] 26):=⟨_,rfl⟩;have DT:Zm V.heap.size V V':=by rw[K_];exact bA (Zi _ _)
      have hq:V'.heap[V.heap.size]?=some (.cells #[.slice none 0 0,.slice none 0 0,.slice none 0 0,.slice none 0 0,.slice none 0 0] 26 (0,0)):=by rw[K_];exact Bv _ _
      have UB:=hX.size;obtain⟨q,OE⟩:∃q,q=V.heap.size:=⟨_,rfl⟩;rw[←OE]at hq UB
      try (have n1:=Ea n1 DT)
      try (have n2:=Mt n2 DT)
      try (have n3:=Ea n3 DT)
      try (have n5:=Ea n5 DT)
      have hX:=hX.trans (DT.mono hX.size);rw[←K_, ←OE];refine⟨AK hX,?_⟩;clear DT OE K_;obtain⟨V,oL⟩:∃V2,V2=V':=⟨_,rfl⟩;subst oL;refine AJ [5] (by kernel_rfl) (by simp) (BB ?_))
  all_goals
   refine Dw (f:=40) (args:= #[.slice a2 c.Ag.length c2]) rfl rfl (by go_simp) ((amC (h.later (BA.trans (hX.mono BA.size))).Ag hle).mono ?_);rintro e V ⟨u,rfl,DT,hu⟩;have n2:=VT hu hX.size;obtain⟨p2,d2,rfl,_,_⟩:=n2.val;clear hu
   try (have hq:=(DT.block _ (Za.1 hq).1).trans hq)
   try (have n1:=Ea n1 DT)
   try (have n3:=Ea n3 DT)
   try (have n5:=Ea n5 DT)
   have hX:=hX.trans (DT.mono hX.size);refine .inl ⟨_,rfl,AK hX,?_⟩;clear DT
  all_goals first
   |(have oa:=Za.1 hq;clear oa;refine AJ [8] (by kernel_rfl) (by simp) (BB ?_))
   |(refine AJ [8,13] (by kernel_rfl) (by simp) (HN ?gA8 ?gB8)
     case' gB8=>
      refine EI (v:=.pointer (some ⟨V.heap.size,0,none⟩)) (w':=V.alloc (.cells #[.slice none 0 0,.slice none 0 0,.slice none 0 0,.slice none 0 0,.slice none 0 0] 26)) rfl rfl (by go_simp) ?_;obtain⟨V',K_⟩:∃V',V'=V.alloc (.cells #[.slice none 0 0,.slice none 0 0,.slice none 0 0,.slice none 0 0,.slice none 0 0] 26):=⟨_,rfl⟩;have DT:Zm V.heap.size V V':=by rw[K_];exact bA (Zi _ _)
      have hq:V'.heap[V.heap.size]?=some (.cells #[.slice none 0 0,.slice none 0 0,.slice none 0 0,.slice none 0 0,.slice none 0 0] 26 (0,0)):=by rw[K_];exact Bv _ _
      have UB:=hX.size;obtain⟨q,OE⟩:∃q,q=V.heap.size:=⟨_,rfl⟩;rw[←OE]at hq UB
      try (have n1:=Ea n1 DT)
      try (have n2:=Mt n2 DT)
      try (have n3:=Ea n3 DT)
      try (have n5:=Ea n5 DT)
      have hX:=hX.trans (DT.mono hX.size);rw[←K_, ←OE];refine⟨AK hX,?_⟩;clear DT OE K_;obtain⟨V,oL⟩:∃V2,V2=V':=⟨_,rfl⟩;subst oL;refine AJ [8] (by kernel_rfl) (by simp) (BB ?_))
  all_goals
   refine Dw (f:=32) (args:= #[.slice a3 c.hooks.length c3]) rfl rfl (by go_simp) ((Tq (h.later (BA.trans (hX.mono BA.size))).hooks yV).mono ?_);rintro e V ⟨u,rfl,DT,hu⟩;have n3:=Nr hu.tt hX.size;obtain⟨p3,d3,rfl,_,_⟩:=n3.val;clear hu
   try (have hq:=(DT.block _ (Za.1 hq).1).trans hq)
   try (have n1:=Ea n1 DT)
   try (have n2:=Mt n2 DT)
   try (have n5:=Ea n5 DT)
   have hX:=hX.trans (DT.mono hX.size);refine .inl ⟨_,rfl,AK hX,?_⟩;clear DT
  all_goals first
   |(have oa:=Za.1 hq;clear oa;refine AJ [11] (by kernel_rfl) (by simp) (BB ?_))
   |(refine AJ [11,13] (by kernel_rfl) (by simp) (HN ?gA11 ?gB11)
     case' gB11=>
      refine EI (v:=.pointer (some ⟨V.heap.size,0,none⟩)) (w':=V.alloc (.cells #[.slice none 0 0,.slice none 0 0,.slice none 0 0,.slice none 0 0,.slice none 0 0] 26)) rfl rfl (by go_simp) ?_;obtain⟨V',K_⟩:∃V',V'=V.alloc (.cells #[.slice none 0 0,.slice none 0 0,.slice none 0 0,.slice none 0 0,.slice none 0 0] 26):=⟨_,rfl⟩;have DT:Zm V.heap.size V V':=by rw[K_];exact bA (Zi _ _)
      have hq:V'.heap[V.heap.size]?=some (.cells #[.slice none 0 0,.slice none 0 0,.slice none 0 0,.slice none 0 0,.slice none 0 0] 26 (0,0)):=by rw[K_];exact Bv _ _
      have UB:=hX.size;obtain⟨q,OE⟩:∃q,q=V.heap.size:=⟨_,rfl⟩;rw[←OE]at hq UB
      try (have n1:=Ea n1 DT)
      try (have n2:=Mt n2 DT)
      try (have n3:=Ea n3 DT)
      try (have n5:=Ea n5 DT)
      have hX:=hX.trans (DT.mono hX.size);rw[←K_, ←OE];refine⟨AK hX,?_⟩;clear DT OE K_;obtain⟨V,oL⟩:∃V2,V2=V':=⟨_,rfl⟩;subst oL;refine AJ [11] (by kernel_rfl) (by simp) (BB ?_))
  all_goals
   refine Dw (f:=32) (args:= #[.slice a5 c.now.length c5]) rfl rfl (by go_simp) ((Tq (h.later (BA.trans (hX.mono BA.size))).now Vi).mono ?_);rintro e V ⟨u,rfl,DT,hu⟩;have n5:=Nr hu.tt hX.size;obtain⟨p5,d5,rfl,_,_⟩:=n5.val;clear hu
   try (have hq:=(DT.block _ (Za.1 hq).1).trans hq)
   try (have n1:=Ea n1 DT)
   try (have n2:=Mt n2 DT)
   try (have n3:=Ea n3 DT)
   have hX:=hX.trans (DT.mono hX.size);refine .inl ⟨_,rfl,AK hX,?_⟩;clear DT
  all_goals first
   |(have oa:=Za.1 hq;clear oa;refine AJ [12] (by kernel_rfl) (by simp) (BB ?_)
     refine EI (v:=.agg #[.slice p1 c.base.length d1,.slice p2 c.Ag.length d2,.slice p3 c.hooks.length d3,.slice none 0 0,.slice p5 c.now.length d5]) (w':=V) rfl rfl (by go_simp) ?_;refine⟨AK hX,?_⟩)
   |(refine AJ [12,13] (by kernel_rfl) (by simp) (HN ?gA12 ?gB12)
     case' gB12=>
      refine EI (v:=.pointer (some ⟨V.heap.size,0,none⟩)) (w':=V.alloc (.cells #[.slice none 0 0,.slice none 0 0,.slice none 0 0,.slice none 0 0,.slice none 0 0] 26)) rfl rfl (by go_simp) ?_;obtain⟨V',K_⟩:∃V',V'=V.alloc (.cells #[.slice none 0 0,.slice none 0 0,.slice none 0 0,.slice none 0 0,.slice none 0 0] 26):=⟨_,rfl⟩;have DT:Zm V.heap.size V V':=by rw[K_];exact bA (Zi _ _)
      have hq:V'.heap[V.heap.size]?=some (.cells #[.slice none 0 0,.slice none 0 0,.slice none 0 0,.slice none 0 0,.slice none 0 0] 26 (0,0)):=by rw[K_];exact Bv _ _
      have UB:=hX.size;obtain⟨q,OE⟩:∃q,q=V.heap.size:=⟨_,rfl⟩;rw[←OE]at hq UB
      try (have n1:=Ea n1 DT)
      try (have n2:=Mt n2 DT)
      try (have n3:=Ea n3 DT)
      try (have n5:=Ea n5 DT)
      have hX:=hX.trans (DT.mono hX.size);rw[←K_, ←OE];refine⟨AK hX,?_⟩;clear DT OE K_;obtain⟨V,oL⟩:∃V2,V2=V':=⟨_,rfl⟩;subst oL;refine AJ [12] (by kernel_rfl) (by simp) (BB ?_);refine EI (v:=.agg #[.slice p1 c.base.length d1,.slice p2 c.Ag.length d2,.slice p3 c.hooks.length d3,.slice none 0 0,.slice p5 c.now.length d5]) (w':=V) rfl rfl (by go_simp) ?_;refine⟨AK hX,?_⟩
     case' gA12=>
      refine EI (v:=.agg #[.slice p1 c.base.length d1,.slice p2 c.Ag.length d2,.slice p3 c.hooks.length d3,.slice none 0 0,.slice p5 c.now.length d5]) (w':=V) rfl rfl (by go_simp) ?_;refine⟨AK hX,?_⟩;refine AJ [13] (by kernel_rfl) (by simp) (BB ?_);refine EI (v:=.pointer (some ⟨V.heap.size,0,none⟩)) (w':=V.alloc (.cells #[.slice none 0 0,.slice none 0 0,.slice none 0 0,.slice none 0 0,.slice none 0 0] 26)) rfl rfl (by go_simp) ?_;obtain⟨V',K_⟩:∃V',V'=V.alloc (.cells #[.slice none 0 0,.slice none 0 0,.slice none 0 0,.slice none 0 0,.slice none 0 0] 26):=⟨_,rfl⟩;have DT:Zm V.heap.size V V':=by rw[K_];exact bA (Zi _ _)
      have hq:V'.heap[V.heap.size]?=some (.cells #[.slice none 0 0,.slice none 0 0,.slice none 0 0,.slice none 0 0,.slice none 0 0] 26 (0,0)):=by rw[K_];exact Bv _ _
      have UB:=hX.size;obtain⟨q,OE⟩:∃q,q=V.heap.size:=⟨_,rfl⟩;rw[←OE]at hq UB
      try (have n1:=Ea n1 DT)
      try (have n2:=Mt n2 DT)
      try (have n3:=Ea n3 DT)
      try (have n5:=Ea n5 DT)
      have hX:=hX.trans (DT.mono hX.size);rw[←K_, ←OE];refine⟨AK hX,?_⟩;clear DT OE K_;obtain⟨V,oL⟩:∃V2,V2=V':=⟨_,rfl⟩;subst oL)
  all_goals
   refine AJ [14] (by kernel_rfl) (by simp) (BB ?_);have g0:=ch (i:=0) hq (v:=.slice none 0 0) rfl;have g1:=ch (i:=1) hq (v:=.slice none 0 0) rfl;have g2:=ch (i:=2) hq (v:=.slice none 0 0) rfl;have g3:=ch (i:=3) hq (v:=.slice none 0 0) rfl;have g4:=ch (i:=4) hq (v:=.slice none 0 0) rfl;have f0:=cf (i:=0) hq;have f1:=cf (i:=1) hq;have f2:=cf (i:=2) hq;have f3:=cf (i:=3) hq;have f4:=cf (i:=4) hq;obtain⟨V',K_⟩:∃V',V'=((((V.setCell ⟨q,0,none⟩ (.slice p1 c.base.length d1)).setCell ⟨q,1,none⟩ (.slice p2 c.Ag.length d2)).setCell ⟨q,2,none⟩ (.slice p3 c.hooks.length d3)).setCell ⟨q,3,none⟩ (.slice none 0 0)).setCell ⟨q,4,none⟩ (.slice p5 c.now.length d5):=⟨_,rfl⟩;refine Qz (w':=V') rfl rfl (by rw[K_];go_simp) ?_;have hX':Zm W3.heap.size W3 V':=by rw[K_];exact bS (bS (bS (bS (bS hX UB) UB) UB) UB) UB
   have hT:Am (fun x=>x=q) V V':=by rw[K_];exact(Am.refl (fun x=>x=q) V).DG.DG.DG.DG.DG
   have BI:∀x,TT W3.heap.size V x→¬x=q:=fun x hx e=>TT.not (e▸hx) hq ⟨by decide,by decide,by decide⟩;refine⟨AK hX',rfl,?_⟩;exact⟨rfl,q,p1,p2,p3,p5,d1,d2,d3,d5,_,_,_,_,_,_,_,_,_,_,_,_,_,rfl,by omega,hX',by rw[K_];exact A5 (A5 (A5 (A5 (A5 hq _) _) _) _) _,QE n1 hT BI,kI n2 hT BI,QE n3 hT BI,QE n5 hT BI⟩
 case rest=>
  rintro e a' V ⟨rfl,q,p1,p2,p3,p5,d1,d2,d3,d5,x5,x6,x7,x8,x9,iO,T9,x12,Oj,Mv,Mw,L_,Ma,rfl,UB,hX,hq,n1,n2,n3,n5⟩;have hC0:CR w W3.heap.size q #[.slice a1 c.base.length c1,.slice a2 c.Ag.length c2,.slice a3 c.hooks.length c3,.slice a4 c.Aa.length c4,.slice a5 c.now.length c5] (.slice p1 c.base.length d1) (.slice p2 c.Ag.length d2) (.slice p3 c.hooks.length d3) (.slice p5 c.now.length d5) c 0 (.slice none 0 0) V:=
   ⟨BA.trans (hX.mono BA.size),(hX.block _ (Za.1 F1).1).trans F1,(hX.block _ hm3).trans Sd,hq,n1,n2,n3,n5,⟨[],Yz _ _ _ _,fun i x hx=>by cases hx⟩,hX.size⟩
  clear hX hq n1 n2 n3 n5 F1 Sd BA;dsimp only;go_wp2;go_loopg [4] c.Aa.length (fun g i wr=>∃(k:Nat) (v4:Zc),k≤c.Aa.length∧g=c.Aa.length - k∧i=.int .i64 k∧CR w W3.heap.size q #[.slice a1 c.base.length c1,.slice a2 c.Ag.length c2,.slice a3 c.hooks.length c3,.slice a4 c.Aa.length c4,.slice a5 c.now.length c5] (.slice p1 c.base.length d1) (.slice p2 c.Ag.length d2) (.slice p3 c.hooks.length d3) (.slice p5 c.now.length d5) c k v4 wr)
  case atStart=>exact⟨0,_,Zt _,rfl,rfl,hC0⟩
  case round=>
   obtain⟨k,v4,hk,rfl,rfl,hC⟩:=hrel;obtain⟨sl,Pt⟩:∃sl,sl=c.Aa.take k:=⟨_,rfl⟩;have hsk:sl.length=k:=by rw[Pt];simp;omega
   have Ds:=hC.row;rw[←Pt]at Ds;obtain⟨va,vc,rfl,_⟩:=Ds.val;rw[hsk]at hC Ds;by_cases Az:k<c.Aa.length
   ·obtain⟨b4,o4,s2,s3,rfl,S8,x0,x1,x2,x3,x4,hp,ho⟩:=h.Aa.at_ (i:=k) Az
    have FX:∀j u,w.cell? ⟨b4,j,none⟩=some u→wr.cell? ⟨b4,j,none⟩=some u:=fun j u hu=>(hC.below.cell (p:=⟨b4,j,none⟩) (hS b4 S8)).trans hu;replace x0:=FX _ _ x0;replace x1:=FX _ _ x1;replace x2:=FX _ _ x2;replace x3:=FX _ _ x3;replace x4:=FX _ _ x4;clear FX;replace hp:=hp.later hC.below;replace ho:=ho.later hC.below;obtain⟨Me,QA⟩:=vu k Az;obtain⟨sm,Nz⟩:∃sm,sm=Aj c.Aa k:=⟨_,rfl⟩;have HTK:=Zh (show c.Aa.take (k+1)=sl++ [sm] by rw[Pt,Nz,List.take_add_one,Dk Az];rfl);rw[←Nz]at x0 x1 x4 hp ho Me QA;clear Nz Pt;obtain⟨low,high,Ak,over,left⟩:=sm;dsimp only at x0 x1 x4 hp ho Me QA;obtain⟨a6,c6,rfl,l6,m6⟩:=hp.val;obtain⟨a7,c7,rfl,l7,m7⟩:=ho.val;obtain⟨K,K8⟩:∃K:Nat→Prop,K=fun x=>x≠q∧w.heap.size+1<x:=⟨_,rfl⟩;have fF:∀x,w.heap.size+1<x→x≠q→K x:=fun x hx hq=>by rw[K8];exact⟨hq,hx⟩
    have oJ:¬K w.heap.size:=by rw[K8];intro x;omega
    have kq:¬K (w.heap.size+1):=by rw[K8];intro x;omega
    have gp:¬K q:=by rw[K8];exact fun x=>x.1 rfl
    have PK:¬K b4:=by rw[K8];intro x;have:=hS b4 S8;omega
    clear K8;have z0:=fun p:Tw K wr=>p.cell (ch (i:=3) hC.box (v:=.slice (some ⟨b4,o4,none⟩) c.Aa.length c4) rfl) oJ;have z1:=fun p:Tw K wr=>p.cell (ch (i:=3) hC.qx (v:=.slice va k vc) rfl) gp;have y0:=fun p:Tw K wr=>p.cell x0 PK;have y1:=fun p:Tw K wr=>p.cell x1 PK;have y2:=fun p:Tw K wr=>p.cell x2 PK;have y3:=fun p:Tw K wr=>p.cell x3 PK;have y4:=fun p:Tw K wr=>p.cell x4 PK;have Tb:(k:Int)<(c.Aa.length:Int):=by omega
    have aan:(0:Int)≤(k:Int):=by omega
    have jv:q<wr.heap.size:=(Za.1 hC.qx).1;have kx:=ch (i:=3) hC.box (v:=.slice (some ⟨b4,o4,none⟩) c.Aa.length c4) rfl;have ay:=hC.below.size;have El:w.heap.size+1<wr.heap.size:=(Za.1 hC.res).1;have Tc:W3.heap.size≤wr.heap.size:=hC.z;go_wp2;clear kx;refine C5 (S:=fun W=>∃p:Tw K wr,W=p.v) [11] [(false,7),(false,8),(false,9),(false,10),(false,11)] [0,1,2,3,4,5,6] (by kernel_rfl) (fun _ _ d _ _ h=>by cases d<;>exact h) (by kernel_rfl) (BH (Am.later (Zi _ _).drew)) ?_;refine Bf _ _ (by kernel_rfl) ?_;simp only[zQ,zW,ZY,ZO,ZN]
    repeat (first|go_big_quiet_step (fail)|quiet_step (fail))
    refine Ye ?_;clear z0 z1 y0 y1 y2 y3 y4 x0 x1 x2 x3 x4;change DR _ _ _ _ _ _ _;have hBd:Zm wr.heap.size wr wr.drew:=(Zi _ _).drew;refine Ee (f:=86) (args:= #[.agg #[.int .i64 low,.int .i64 high,.slice a6 Ak.length c6,.slice a7 over.length c7,.int .i64 left]]) rfl rfl (by go_simp) ((amD (hp.later hBd) (ho.later hBd) Me QA).mono ?_);rintro e w1 ⟨u2,u3,rfl,Bw,KB,Mx⟩;have aR:Zm wr.heap.size wr w1:=hBd.trans (Bw.mono (Zj _));have NC:Am K wr w1:=Am.later aR;refine⟨_,rfl,.inr (BH NC),?_⟩;have KB:SP (TT wr.heap.size w1) w1 u2 Ak:=KB;have Mx:SI (TT wr.heap.size w1) w1 u3 over:=Own.tt Mx;obtain⟨p6,t6,rfl,_⟩:=KB.val;obtain⟨p7,t7,rfl,_⟩:=Mx.val;obtain⟨sU,sV⟩:∃sU,sU=w1.alloc (.cells #[.int .i64 low,.int .i64 high,.slice p6 Ak.length t6,.slice p7 over.length t7,.int .i64 left] 62):=⟨_,rfl⟩;have bz:Zm w1.heap.size w1 sU:=by rw[sV];exact bA (Zi _ _)
    have KE:=aR.trans (bz.mono aR.size);have dS:Am K wr sU:=Am.later KE;refine Jv (v:=.slice (some ⟨w1.heap.size,0,none⟩) 1 1) (w':=sU) rfl rfl (by rw[sV];go_simp) (.inr (BH dS)) ?_;obtain⟨vals,AY,GF⟩:=Ds.later KE;rw[hsk]at AY;obtain⟨i0,hi,dI,sS,aas⟩:=YC dy;have amF:=CM Tryz.underlying24;refine PO rfl rfl ?_;refine Zav _ _ _ 24 rfl W3.heap.size 62 i0 (.agg #[.int .i64 0,.int .i64 0,.slice none 0 0,.slice none 0 0,.int .i64 0]) 5 72 amF (D3 hi) dI sS aas rfl (by decide) _ k vals rfl AY ⟨w1.heap.size,0,none⟩ 1 1 [.int .i64 low,.int .i64 high,.slice p6 Ak.length t6,.slice p7 over.length t7,.int .i64 left] rfl rfl (by rw[sV];exact K9 _ _ _) (by intro u hu;simp at hu;rcases hu with rfl|rfl|rfl|rfl|rfl<;>rfl) (by unfold maxLen;omega) (by omega) (by have:=KE.size;omega) ?_;intro v' w2 Cx AG Fi;have FD:∀g,(Zy va k vc).ownBlock=some g→W3.heap.size≤g∧∃cs,wr.heap[g]?=some (.cells cs 62 (0,0)):=Ds.own;have I1:Am (fun x=>(Zy va k vc).ownBlock=some x) sU w2:=Am.grown AG fun g hg=>hg;have Fa:Am K wr w2:=dS.trans (Am.grown AG fun g hg=>by
     obtain⟨h1,cs,h2⟩:=FD g hg;exact fF g (by omega) (fun e=>by subst e;rw[hC.qx]at h2;cases h2))
    refine⟨.inr (BH Fa),?_⟩;obtain⟨g',GI,rfl⟩:=ownsRow_succ Cx;have Ng:=(Fa.block q jv gp).trans hC.qx;have f3:=cf (i:=3) Ng;have e3:=ch (i:=3) Ng (v:=.slice va k vc) rfl;refine E7 (v:=.pointer (some ⟨q,3,none⟩)) rfl rfl (by go_simp) (.inr (BH Fa)) ?_;refine Ky (w':=w2.setCell ⟨q,3,none⟩ (.slice (some ⟨g',0,none⟩) (k+1) GI)) rfl rfl (by go_simp) (.inl rfl) ?_;have aC:CR w W3.heap.size q #[.slice a1 c.base.length c1,.slice a2 c.Ag.length c2,.slice a3 c.hooks.length c3,.slice (some ⟨b4,o4,none⟩) c.Aa.length c4,.slice a5 c.now.length c5] (.slice p1 c.base.length d1) (.slice p2 c.Ag.length d2) (.slice p3 c.hooks.length d3) (.slice p5 c.now.length d5) c (k+1) (.slice (some ⟨g',0,none⟩) (k+1) GI) (w2.setCell ⟨q,3,none⟩ (.slice (some ⟨g',0,none⟩) (k+1) GI)):=by
     have Sz:Am (fun x=>x=q) w2 (w2.setCell ⟨q,3,none⟩ (.slice (some ⟨g',0,none⟩) (k+1) GI)):=(Am.refl (fun x=>x=q) w2).DG;have hnq:∀x,TT W3.heap.size w2 x→¬x=q:=fun x hx e=>TT.not (e▸hx) Ng ⟨by decide,by decide,by decide⟩;have hng:∀ {A:Zb} (hA:∀g cs,wr.heap[g]?=some (Obj.cells cs 62 (0,0))→A.heap[g]?=some (Obj.cells cs 62 (0,0))) x,TT W3.heap.size A x→¬(Zy va k vc).ownBlock=some x:=fun hA x hx e=>by
      obtain⟨_,cs,h2⟩:=FD x e;exact TT.not hx (hA x cs h2) ⟨by decide,by decide,by decide⟩
     have hTw:Am (fun x=>(Zy va k vc).ownBlock=some x) wr w2:=((Am.later KE).mono fun _ x=>x).trans I1;have sk:=hng (A:=wr) (fun g cs h=>h);have pD:=hng (A:=sU) (fun g cs h=>(KE.block g (Za.1 h).1).trans h);refine⟨?_,?_,?_,A5 Ng _,QE (QE hC.base hTw sk) Sz hnq,kI (kI hC.Ag hTw sk) Sz hnq,QE (QE hC.hooks hTw sk) Sz hnq,QE (QE hC.now hTw sk) Sz hnq,?_,by have:=hTw.size;simp;omega⟩
     ·exact bS ((hC.below.trans (KE.mono hC.below.size)).trans (I1.below (fun g hg=>by have:=(FD g hg).1;omega) (by have:=KE.size;omega))) (by omega)
     ·exact(AW (by omega) _).trans ((Fa.block _ (by omega) oJ).trans hC.box)
     ·exact(AW (by omega) _).trans ((Fa.block _ El kq).trans hC.res)
     ·rw[HTK.out]
      refine En.Du (A:=w2) ?_ Sz hnq (fun g hg e=>by
       cases hg;subst e;rcases Cx.2 with⟨e,_⟩|⟨g,cap,cur,e,_,h3,_⟩
       ·cases e
       ·cases e
        rw[Ng]at h3;cases h3)
      rw[show k+1=sl.length+1 by rw[hsk]]at*;have vB:Rs (TT W3.heap.size sU) sU [.int .i64 low,.int .i64 high,.slice p6 Ak.length t6,.slice p7 over.length t7,.int .i64 left] ⟨low,high,Ak,over,left⟩:=⟨_,_,rfl,VT (Mt KB bz) Tc,Nr (Ea Mx bz) Tc⟩;exact En.snoc (fun i x hi=>vL (GF i x hi) I1 pD) (by have:=AY.1;rw[this,hsk]) rfl (vL vB I1 pD) Cx
    have HC2:=Zh aC;clear aC hC Fa I1 dS NC KE bz sV Bw aR KB Mx AY Cx GF AG Fi FD Ds f3 e3 Ng hp ho;unfold DR
    go_simp
    go_wp2;go_roundg (c.Aa.length - (k+1))
    case rel=>exact⟨k+1,_,Az,rfl,by go_num,HC2.out⟩
    case measure=>omega
   ·have Wk:k=c.Aa.length:=by omega
    rw[Wk,List.take_length]at Pt;subst Pt;subst Wk;have kx:=ch (i:=3) hC.box (v:=.slice a4 c.Aa.length c4) rfl;have s0:=ch (i:=0) hC.qx (v:=.slice p1 c.base.length d1) rfl;have s1:=ch (i:=1) hC.qx (v:=.slice p2 c.Ag.length d2) rfl;have s2:=ch (i:=2) hC.qx (v:=.slice p3 c.hooks.length d3) rfl;have s3:=ch (i:=3) hC.qx (v:=.slice va c.Aa.length vc) rfl;have s4:=ch (i:=4) hC.qx (v:=.slice p5 c.now.length d5) rfl;have f0:=cf (i:=0) hC.res;have f1:=cf (i:=1) hC.res;have f2:=cf (i:=2) hC.res;have f3:=cf (i:=3) hC.res;have f4:=cf (i:=4) hC.res;have r0:=ch (i:=0) hC.res (v:=.slice none 0 0) rfl;have r1:=ch (i:=1) hC.res (v:=.slice none 0 0) rfl;have r2:=ch (i:=2) hC.res (v:=.slice none 0 0) rfl;have r3:=ch (i:=3) hC.res (v:=.slice none 0 0) rfl;have r4:=ch (i:=4) hC.res (v:=.slice none 0 0) rfl;have jv:q<wr.heap.size:=(Za.1 hC.qx).1;have ay:=hC.below.size;have El:w.heap.size+1<wr.heap.size:=(Za.1 hC.res).1;have HC:=Zh hC;have HR:=Zh Ds;clear hC Ds;go_wp2;refine ZX (v:=.agg #[.slice p1 c.base.length d1,.slice p2 c.Ag.length d2,.slice p3 c.hooks.length d3,.slice va c.Aa.length vc,.slice p5 c.now.length d5]) (by rw[A3 rfl];go_simp) rfl ?_;have key:∀X,Zm w.heap.size w X→Am (fun x=>x=w.heap.size+1) wr X→QF w c (.returned (.agg #[.slice p1 c.base.length d1,.slice p2 c.Ag.length d2,.slice p3 c.hooks.length d3,.slice va c.Aa.length vc,.slice p5 c.now.length d5])) X:=fun X NF OD=>by
     have hn:∀x,TT W3.heap.size wr x→¬x=w.heap.size+1:=fun x hx e=>by have:=hx.1;omega
     have kJ:w.heap.size≤W3.heap.size:=by omega
     have hg:∀g,(Zy va c.Aa.length vc).ownBlock=some g→¬g=w.heap.size+1:=fun g hg e=>by have:=(HR.out.own g hg).1;omega
     exact⟨_,_,_,_,_,rfl,NF,Nr (QE HC.out.base OD hn) kJ,VT (kI HC.out.Ag OD hn) kJ,Nr (QE HC.out.hooks OD hn) kJ,Nr (QE HC.out.now OD hn) kJ,(HR.out.Du OD hn hg).mono kJ⟩
    have KC:=HC.out.below;refine key _ ?_ ?_
    ·repeat (with_reducible first|exact KC|(refine bS ?_ (by omega)))
    ·repeat (with_reducible first|exact Am.refl _ _|(refine Am.DG ?_))
def OG (n:Nat)(o:List Int):List Int:=(ZaB o.length).map fun k=>(n:Int) - 1 - nth o (o.length - 1 - k)
def jU (n:Nat)(s:Ax):Ax:=⟨s.low,s.high,s.Ak,OG n s.over,s.left⟩
def OH (l:List Ax):List Ax:=(ZaB l.length).map fun i=>jU l.length (Aj l (l.length - 1 - i))
def OI (c:Aw):Aw:= {c with Aa:=OH c.Aa}
theorem Gk (n:Nat)(o:List Int):(OG n o).length=o.length:=by simp[OG]
theorem Gl (l:List Ax):(OH l).length=l.length:=by simp[OH]
theorem SA {n k:Nat}{o:List Int}(h:k<o.length):(OG n o)[k]?=some ((n:Int) - 1 - nth o (o.length - 1 - k)):=by simp[OG,h]
theorem aS {l:List Ax}{i:Nat}(h:i<l.length):(OH l)[i]?=some (jU l.length (Aj l (l.length - 1 - i))):=by simp[OH,h]
theorem gq {α:Type}{a b:List α}{k:Nat}{x:α}(h:a.length=b.length)(hx:a[k]?=some x):(a.take k++b.drop k).set k x=a.take (k+1)++b.drop (k+1):=by
 have hk:=(Zo.1 hx).1;apply YM;intro j;by_cases dt:j=k
 ·subst dt
  rw[Ya (by simp;omega),zD (by simp;omega),ZW (by omega)];exact hx.symm
 ·rw[ZM (fun e=>dt e.symm)]
  by_cases Az:j<k
  ·rw[zD (by simp;omega),zD (by simp;omega),ZW Az,ZW (by omega)]
  ·rw[List.getElem?_append_right (by simp;omega),List.getElem?_append_right (by simp;omega),YA,YA]
   congr 1
   simp;omega
theorem gr {α:Type}{a b:List α}{k:Nat}(h:a.length=b.length)(hk:a.length≤k):a.take k++b.drop k=a:=by
 rw[List.take_of_length_le hk,zf.2 (by omega),List.append_nil]
theorem gu {α:Type}{a b:List α}{k:Nat}(h:a.length=b.length)(hk:k≤a.length):(a.take k++b.drop k).length=b.length:=by
 simp;omega
theorem En.put {n base g cap i:Nat}{w:Zb}{l:List Ax}{s:Ax}{v2 v3:Zc}(h:En n w base (.slice (some ⟨g,0,none⟩) l.length cap) l)(hi:i<l.length)(hs:Rs (TT n w) w [.int .i64 s.low,.int .i64 s.high,v2,v3,.int .i64 s.left] s):
  En n (((((w.setCell ⟨g,i*5,none⟩ (.int .i64 s.low)).setCell ⟨g,i*5+1,none⟩ (.int .i64 s.high)).setCell ⟨g,i*5+2,none⟩ v2).setCell ⟨g,i*5+3,none⟩ v3).setCell ⟨g,i*5+4,none⟩ (.int .i64 s.left)) base (.slice (some ⟨g,0,none⟩) l.length cap) (l.set i s):=by
 obtain⟨vals,h1,h2⟩:=h;rcases h1.2 with⟨e,_⟩|⟨g',GI,cur,e,h3,h4,h5,h6,h7,h8⟩
 ·cases e
 ·cases e
  have hT:=(Am.refl (fun x=>x=g) w).DG (i:=i*5) (v:=.int .i64 s.low)|>.DG (i:=i*5+1) (v:=.int .i64 s.high)|>.DG (i:=i*5+2) (v:=v2)|>.DG (i:=i*5+3) (v:=v3)|>.DG (i:=i*5+4) (v:=.int .i64 s.left);have BI:∀x,TT n w x→¬x=g:=fun x hx e=>TT.not (e▸hx) h4 ⟨by decide,by decide,by decide⟩;have hvl:=h1.1;refine⟨((((vals.set (i*5) (.int .i64 s.low)).set (i*5+1) (.int .i64 s.high)).set (i*5+2) v2).set (i*5+3) v3).set (i*5+4) (.int .i64 s.left),⟨by simp[hvl],.inr ⟨g,cap,_,by simp,h3,A5 (A5 (A5 (A5 (A5 h4 _) _) _) _) _,by simpa using h5,h6,by simpa using h7,?_⟩⟩,fun j x hx=>?_⟩
  ·simp only[Array.toList_setIfInBounds,List.length_set,List.take_set,h8]
  ·have hj:=(Zo.1 hx).1
   rw[List.length_set]at hj;by_cases hij:i=j
   ·subst hij
    rw[Ya hi]at hx;cases hx;have e:((((((vals.set (i*5) (.int .i64 s.low)).set (i*5+1) (.int .i64 s.high)).set (i*5+2) v2).set (i*5+3) v3).set (i*5+4) (.int .i64 s.left)).drop (i*5)).take 5=[.int .i64 s.low,.int .i64 s.high,v2,v3,.int .i64 s.left]:=by
     apply YM;intro k;by_cases hk:k<5
     ·rw[ZW hk,YA]
      have:k=0∨k=1∨k=2∨k=3∨k=4:=by omega
      rcases this with rfl|rfl|rfl|rfl|rfl
      ·rw[ZM (by omega),ZM (by omega),ZM (by omega),ZM (by omega),Nat.add_zero,Ya (by omega)];rfl
      ·rw[ZM (by omega),ZM (by omega),ZM (by omega),Ya (by simp;omega)];rfl
      ·rw[ZM (by omega),ZM (by omega),Ya (by simp;omega)];rfl
      ·rw[ZM (by omega),Ya (by simp;omega)];rfl
      ·rw[Ya (by simp;omega)];rfl
     ·rw[ZS (by simp;omega),ZS (by simp;omega)]
    rw[e];exact vL hs hT BI
   ·rw[ZM hij]at hx
    have e:((((((vals.set (i*5) (.int .i64 s.low)).set (i*5+1) (.int .i64 s.high)).set (i*5+2) v2).set (i*5+3) v3).set (i*5+4) (.int .i64 s.left)).drop (j*5)).take 5=(vals.drop (j*5)).take 5:=by
     apply YM;intro k;by_cases hk:k<5
     ·rw[ZW hk,YA,ZW hk,YA,ZM (by omega),ZM (by omega),ZM (by omega),ZM (by omega),ZM (by omega)]
     ·rw[ZS (by simp;omega),ZS (by simp;omega)]
    rw[e];exact vL (h2 j x hx) hT BI
theorem En.ptr {n base:Nat}{w:Zb}{v:Zc}{l:List Ax}(h:En n w base v l)(hp:0<l.length):∃g cap,v=.slice (some ⟨g,0,none⟩) l.length cap∧base≤g:=by
 obtain⟨vals,h1,_⟩:=h;rcases h1.2 with⟨_,h2⟩|⟨g,cap,cur,e,h3,_⟩
 ·omega
 ·exact⟨g,cap,e,h3⟩
theorem En.cells {n base g cap i:Nat}{w:Zb}{l:List Ax}(h:En n w base (.slice (some ⟨g,0,none⟩) l.length cap) l)(hi:i<l.length):∃cur,w.heap[g]?=some (.cells cur 62 (0,0))∧∀j,j<5→∃u,cur[i*5+j]?=some u:=by
 obtain⟨vals,h1,_⟩:=h;rcases h1.2 with⟨e,_⟩|⟨g',GI,cur,e,h3,h4,h5,h6,h7,h8⟩
 ·cases e
 ·cases e
  exact⟨cur,h4,fun j hj=>⟨_,ZB (by omega)⟩⟩
theorem dT {e:Zs}{n:Nat}{A B:Zb}{T:Nat→Prop}{u:Zc}{l:List (Int×Int)}(h:SP (ND e n A) A u l)(hT:Am T A B)(hx:∀b,ND e n A b→¬T b):SP (ND e n B) B u l:=
 Sl.imp (SP.Au h (hT.same hx)) (fun b hb=>⟨⟨hb.1.1,Zl hb.1.2 hT.size⟩,by rw[hT.block b hb.1.2 (hx b hb)];exact hb.2⟩) fun _ _ x=>x
theorem amG {S:Nat→Prop}{w:Zb}{v2 v3:Zc}{lo hi left:Int}{Ak:List (Int×Int)}{over:List Int}(hp:SP S w v2 Ak)(ho:SI S w v3 over)(h2:Ak.length≤1000)(h3:over.length≤1000):
  Calls Lp 86 #[.agg #[.int .i64 lo,.int .i64 hi,v2,v3,.int .i64 left]] w fun e w'=>∃u2 u3,e=.returned (.agg #[.int .i64 lo,.int .i64 hi,u2,u3,.int .i64 left])∧Zm w.heap.size w w'∧SP (ND 64 w.heap.size w') w' u2 Ak∧Own w' w.heap.size u3 over:=by
 obtain⟨a2,c2,rfl,l2,m2⟩:=hp.val;obtain⟨a3,c3,rfl,l3,m3⟩:=ho.val;have I3:=DN;go_enter Lp.func86,n86;go_wp2;obtain⟨W3,Hd⟩:∃W3,W3=(w.alloc (.cells #[.int .i64 lo,.int .i64 hi,.slice a2 Ak.length c2,.slice a3 over.length c3,.int .i64 left] 62)).alloc (.cells #[.int .i64 0,.int .i64 0,.slice none 0 0,.slice none 0 0,.int .i64 0] 62):=⟨_,rfl⟩;have BA:Zm w.heap.size w W3:=by rw[Hd];exact bA (bA (Zi _ _))
 have F1:W3.heap[w.heap.size]?=some (.cells #[.int .i64 lo,.int .i64 hi,.slice a2 Ak.length c2,.slice a3 over.length c3,.int .i64 left] 62 (0,0)):=by rw[Hd];exact Bm (Bv _ _) _
 have Sd:W3.heap[w.heap.size+1]?=some (.cells #[.int .i64 0,.int .i64 0,.slice none 0 0,.slice none 0 0,.int .i64 0] 62 (0,0)):=by rw[Hd];exact JL _ _ _
 rw[←Hd];clear Hd;have z2:=fun p=>Aq p (ch (i:=2) F1 (v:=.slice a2 Ak.length c2) rfl);have z3:=fun p=>Aq p (ch (i:=3) F1 (v:=.slice a3 over.length c3) rfl);refine C5 (S:=fun W=>∃p,W=calm W3 p) [7,8,9,10] [(false,0),(false,3),(true,7),(false,6),(false,8),(false,9),(false,10)] [1,2,4,5] (by kernel_rfl) (fun _ _ d _ _ h=>by cases d<;>exact h) (by kernel_rfl) (AK (Zi _ _).drew) ?_;refine Bf _ _ (by kernel_rfl) ?_;simp only[zQ,zW,ZY,ZO,ZN]
 repeat (first|go_big_quiet_step (fail)|quiet_step (fail))
 refine Ye ?_;clear z2 z3;change DR _ _ _ _ _ _ _;have sT:Zm W3.heap.size W3 (W3.drew.alloc (.cells #[] 64)):=bA (Zi _ _).drew;refine Jv (v:=.slice (some ⟨W3.heap.size,0,none⟩) 0 0) (w':=W3.drew.alloc (.cells #[] 64)) rfl rfl (by go_simp) (.inr (AK sT)) ?_;cases ha2:a2 with
 |none=>
  subst ha2;have hl:Ak=[]:=by
   cases Ak with
   |nil=>rfl
   |cons x r=>obtain⟨b,o,e,_⟩:=hp.at_ (i:=0) (by simp);cases e
  subst hl;refine Jv (v:=.slice (some ⟨W3.heap.size,0,none⟩) 0 0) (w':=W3.drew.alloc (.cells #[] 64)) rfl rfl (by go_simp) (.inr (AK sT)) ?_;obtain⟨W5,I6⟩:∃W5,W5=W3.drew.alloc (.cells #[] 64):=⟨_,rfl⟩;obtain⟨u2,dR⟩:∃u2:Zc,u2=.slice (some ⟨W3.heap.size,0,none⟩) 0 0:=⟨_,rfl⟩;have KB:SP (ND 64 W3.heap.size W5) W5 u2 []:=⟨_,0,dR,Zj _,Zt _,fun i x hx=>by cases hx⟩;have Ck:Zm W3.heap.size W3 W5:=by rw[I6];exact sT
  rw[←I6, ←dR];clear I6 dR;have Sy:=BA.trans (Ck.mono BA.size);refine Nd (v:=.pointer (some ⟨w.heap.size,2,none⟩)) rfl rfl (fun w=>by go_simp) ?_;refine Ee (f:=32) (args:= #[.slice a3 over.length c3]) rfl rfl (by go_simp) ((Tq (ho.later Sy) h3).mono ?_);rintro e W6 ⟨u3,rfl,DQ,Mx⟩;have Jy:=Ck.trans (DQ.mono Ck.size);refine⟨u3,rfl,.inr (AK Jy),?_⟩;obtain⟨p2,d2,rfl,_⟩:=KB.val;obtain⟨p3,d3,rfl,_⟩:=Mx.si.val;have Qg:=BA.trans (Jy.mono BA.size);have I8:=(Jy.block _ (Za.1 F1).1).trans F1;have Ik:=(Jy.block _ (Za.1 Sd).1).trans Sd;have Tc:w.heap.size+1<W3.heap.size:=(Za.1 Sd).1;have pT:W3.heap.size≤W5.heap.size:=Ck.size;have n2:SP (ND 64 W3.heap.size W6) W6 (.slice p2 0 d2) []:=dT (T:=fun _=>False) KB ((Am.later DQ).mono fun _ x=>x) fun _ _ x=>x;have n3:Own W6 W3.heap.size (.slice p3 over.length d3) over:=Mx.mono pT;refine K2 _ _ _ (by kernel_rfl) (fun x hx w=>.inl ?_) ?_
  ·revert x;decide
  simp only[F0,ZY,ZO,ZN];have g0:=ch (i:=0) I8 (v:=.int .i64 lo) rfl;have g1:=ch (i:=1) I8 (v:=.int .i64 hi) rfl;have g2:=ch (i:=2) I8 (v:=.slice none 0 c2) rfl;have g3:=ch (i:=3) I8 (v:=.slice a3 over.length c3) rfl;have g4:=ch (i:=4) I8 (v:=.int .i64 left) rfl;have f2:=cf (i:=2) I8;have f3:=cf (i:=3) I8;have x0:=ch (i:=0) Ik (v:=.int .i64 0) rfl;have x1:=ch (i:=1) Ik (v:=.int .i64 0) rfl;have x2:=ch (i:=2) Ik (v:=.slice none 0 0) rfl;have x3:=ch (i:=3) Ik (v:=.slice none 0 0) rfl;have x4:=ch (i:=4) Ik (v:=.int .i64 0) rfl;have y0:=cf (i:=0) Ik;have y1:=cf (i:=1) Ik;have y2:=cf (i:=2) Ik;have y3:=cf (i:=3) Ik;have y4:=cf (i:=4) Ik;clear DQ KB Mx;go_wp2;refine ZX (v:=.agg #[.int .i64 lo,.int .i64 hi,.slice p2 0 d2,.slice p3 over.length d3,.int .i64 left]) (by rw[A3 rfl];go_simp) rfl ?_;have key:∀X,Zm w.heap.size w X→Am (fun x=>x<W3.heap.size) W6 X→∃u2 u3,Ending.returned (.agg #[.int .i64 lo,.int .i64 hi,.slice p2 0 d2,.slice p3 over.length d3,.int .i64 left])=.returned (.agg #[.int .i64 lo,.int .i64 hi,u2,u3,.int .i64 left])∧Zm w.heap.size w X∧SP (ND 64 w.heap.size X) X u2 []∧Own X w.heap.size u3 over:=fun X NF OD=>
   ⟨_,_,rfl,NF,Sl.imp (dT n2 OD fun x hx h=>by have:=hx.1.1;omega) (fun b hb=>⟨⟨by have:=hb.1.1;omega,hb.1.2⟩,hb.2⟩) (fun _ _ x=>x),(n3.Du OD fun x hx h=>by omega).mono (by omega)⟩
  refine key _ ?_ ?_
  ·repeat (with_reducible first|exact Qg|(refine bS ?_ (by omega)))
  ·repeat (with_reducible first|exact Am.refl _ _|(refine Am.set ?_ (show _<_ by omega)))
 |some ad=>
  obtain⟨news,hn,hR,hc⟩:=Sl.row hp (by decide) ad ha2;have h1:=row_one (by decide) hn hR au;obtain⟨i0,Df,Fg,El,EN⟩:=YC VC;have hu:=CM Tryz.underlying60;refine PO rfl rfl ?_;refine Zav _ _ _ 60 rfl W3.heap.size 64 i0 (.agg #[.int .i64 0,.int .i64 0]) 2 16 hu (D3 Df) Fg El EN rfl (by decide) _ 0 [] rfl (Yq W3.drew #[] 0 (Zj _) (Zt _) rfl) ad Ak.length c2 news (by rw[←ha2];rfl) hn (fun j u hj=>?_) h1 (by unfold maxLen;omega) (by omega) (by simp) ?_
  ·exact ca (show W3.cell? _=_ from(BA.cell (ZH w _ (hc j u hj))).trans (hc j u hj)) _
  intro u2 W5 AY AG Fi;have Ck:Zm W3.heap.size W3 W5:=Br sT AG (fun k hk=>by cases hk;exact Zj _) (by simp);refine⟨.inr (AK Ck),?_⟩;have KB:SP (ND 64 W3.heap.size W5) W5 u2 Ak:=Mr (by decide) (by rw[Ym,zE]at AY;exact AY) (fun i x hx=>hR i x hx);clear AY AG Fi;have Sy:=BA.trans (Ck.mono BA.size);refine Nd (v:=.pointer (some ⟨w.heap.size,2,none⟩)) rfl rfl (fun w=>by go_simp) ?_;refine Ee (f:=32) (args:= #[.slice a3 over.length c3]) rfl rfl (by go_simp) ((Tq (ho.later Sy) h3).mono ?_);rintro e W6 ⟨u3,rfl,DQ,Mx⟩;have Jy:=Ck.trans (DQ.mono Ck.size);refine⟨u3,rfl,.inr (AK Jy),?_⟩;obtain⟨p2,d2,rfl,_⟩:=KB.val;obtain⟨p3,d3,rfl,_⟩:=Mx.si.val;have Qg:=BA.trans (Jy.mono BA.size);have I8:=(Jy.block _ (Za.1 F1).1).trans F1;have Ik:=(Jy.block _ (Za.1 Sd).1).trans Sd;have Tc:w.heap.size+1<W3.heap.size:=(Za.1 Sd).1;have pT:W3.heap.size≤W5.heap.size:=Ck.size;have n2:SP (ND 64 W3.heap.size W6) W6 (.slice p2 Ak.length d2) Ak:=dT (T:=fun _=>False) KB ((Am.later DQ).mono fun _ x=>x) fun _ _ x=>x;have n3:Own W6 W3.heap.size (.slice p3 over.length d3) over:=Mx.mono pT;refine K2 _ _ _ (by kernel_rfl) (fun x hx w=>.inl ?_) ?_
  ·revert x;decide
  simp only[F0,ZY,ZO,ZN];have g0:=ch (i:=0) I8 (v:=.int .i64 lo) rfl;have g1:=ch (i:=1) I8 (v:=.int .i64 hi) rfl;have g2:=ch (i:=2) I8 (v:=.slice a2 Ak.length c2) rfl;have g3:=ch (i:=3) I8 (v:=.slice a3 over.length c3) rfl;have g4:=ch (i:=4) I8 (v:=.int .i64 left) rfl;have f2:=cf (i:=2) I8;have f3:=cf (i:=3) I8;have x0:=ch (i:=0) Ik (v:=.int .i64 0) rfl;have x1:=ch (i:=1) Ik (v:=.int .i64 0) rfl;have x2:=ch (i:=2) Ik (v:=.slice none 0 0) rfl;have x3:=ch (i:=3) Ik (v:=.slice none 0 0) rfl;have x4:=ch (i:=4) Ik (v:=.int .i64 0) rfl;have y0:=cf (i:=0) Ik;have y1:=cf (i:=1) Ik;have y2:=cf (i:=2) Ik;have y3:=cf (i:=3) Ik;have y4:=cf (i:=4) Ik;clear DQ KB Mx;go_wp2;refine ZX (v:=.agg #[.int .i64 lo,.int .i64 hi,.slice p2 Ak.length d2,.slice p3 over.length d3,.int .i64 left]) (by rw[A3 rfl];go_simp) rfl ?_;have key:∀X,Zm w.heap.size w X→Am (fun x=>x<W3.heap.size) W6 X→∃u2 u3,Ending.returned (.agg #[.int .i64 lo,.int .i64 hi,.slice p2 Ak.length d2,.slice p3 over.length d3,.int .i64 left])=.returned (.agg #[.int .i64 lo,.int .i64 hi,u2,u3,.int .i64 left])∧Zm w.heap.size w X∧SP (ND 64 w.heap.size X) X u2 Ak∧Own X w.heap.size u3 over:=fun X NF OD=>
   ⟨_,_,rfl,NF,Sl.imp (dT n2 OD fun x hx h=>by have:=hx.1.1;omega) (fun b hb=>⟨⟨by have:=hb.1.1;omega,hb.1.2⟩,hb.2⟩) (fun _ _ x=>x),(n3.Du OD fun x hx h=>by omega).mono (by omega)⟩
  refine key _ ?_ ?_
  ·repeat (with_reducible first|exact Qg|(refine bS ?_ (by omega)))
  ·repeat (with_reducible first|exact Am.refl _ _|(refine Am.set ?_ (show _<_ by omega)))
structure MR (w:Zb)(q g cap:Nat)(xs:Array Zc)(s1 s2 s3 s5:Zc)(c:Aw)(k:Nat)(wr:Zb):Prop where
 below:Zm w.heap.size w wr
 box:wr.heap[w.heap.size]?=some (.cells xs 26 (0,0))
 res:wr.heap[w.heap.size+1]?=some (.cells #[.slice none 0 0,.slice none 0 0,.slice none 0 0,.slice none 0 0,.slice none 0 0] 26 (0,0))
 qx:wr.heap[q]?=some (.cells #[s1,s2,s3,.slice (some ⟨g,0,none⟩) c.Aa.length cap,s5] 26 (0,0))
 base:SI (TT (w.heap.size+1+1) wr) wr s1 c.base
 Ag:SP (TT (w.heap.size+1+1) wr) wr s2 c.Ag
 hooks:SI (TT (w.heap.size+1+1) wr) wr s3 c.hooks
 now:SI (TT (w.heap.size+1+1) wr) wr s5 c.now
 row:En (w.heap.size+1+1) wr (w.heap.size+1+1) (.slice (some ⟨g,0,none⟩) c.Aa.length cap) ((OH c.Aa).take k++c.Aa.drop k)
theorem amH {S:Nat→Prop}{w:Zb}{v1 v2 v3 v4 v5:Zc}{c:Aw}(h:RC S w v1 v2 v3 v4 v5 c)(hS:∀b,S b→b<w.heap.size)(sW:c.now=[])(fO:c.base.length≤1000)(hle:c.Ag.length≤1000)(yV:c.hooks.length≤1000)(Wj:1≤c.Aa.length∧c.Aa.length≤1000)(vu:∀i,i<c.Aa.length→(Aj c.Aa i).Ak.length≤1000∧(Aj c.Aa i).over.length≤1000)
  (kB:∀i,i<c.Aa.length→∀x∈(Aj c.Aa i).over,0≤x∧x≤1000000):
  Calls Lp 111 #[.agg #[v1,v2,v3,v4,v5]] w (QF w (OI c)):=by
 obtain⟨a1,c1,rfl,l1,m1⟩:=h.base.val;obtain⟨a2,c2,rfl,l2,m2⟩:=h.Ag.val;obtain⟨a3,c3,rfl,l3,m3⟩:=h.hooks.val;obtain⟨a4,c4,rfl,l4,m4⟩:=h.Aa.val;obtain⟨a5,c5,rfl,l5,m5⟩:=h.now.val;have I3:=DN;have P3:c.now.length≤1000:=by rw[sW];simp
 have UC:¬((0:Int)<(c.now.length:Int)):=by rw[sW];simp
 have aut:=Zh sW;clear sW;have Bw:Zm w.heap.size w ((w.alloc (.cells #[.slice a1 c.base.length c1,.slice a2 c.Ag.length c2,.slice a3 c.hooks.length c3,.slice a4 c.Aa.length c4,.slice a5 c.now.length c5] 26)).alloc (.cells #[.slice none 0 0,.slice none 0 0,.slice none 0 0,.slice none 0 0,.slice none 0 0] 26)):=bA (bA (Zi _ _));have ag4:((w.alloc (.cells #[.slice a1 c.base.length c1,.slice a2 c.Ag.length c2,.slice a3 c.hooks.length c3,.slice a4 c.Aa.length c4,.slice a5 c.now.length c5] 26)).alloc (.cells #[.slice none 0 0,.slice none 0 0,.slice none 0 0,.slice none 0 0,.slice none 0 0] 26)).heap[w.heap.size]?=some (.cells #[.slice a1 c.base.length c1,.slice a2 c.Ag.length c2,.slice a3 c.hooks.length c3,.slice a4 c.Aa.length c4,.slice a5 c.now.length c5] 26 (0,0)):=Bm (Bv _ _) _;have dU:((w.alloc (.cells #[.slice a1 c.base.length c1,.slice a2 c.Ag.length c2,.slice a3 c.hooks.length c3,.slice a4 c.Aa.length c4,.slice a5 c.now.length c5] 26)).alloc (.cells #[.slice none 0 0,.slice none 0 0,.slice none 0 0,.slice none 0 0,.slice none 0 0] 26)).heap[w.heap.size+1]?=some (.cells #[.slice none 0 0,.slice none 0 0,.slice none 0 0,.slice none 0 0,.slice none 0 0] 26 (0,0)):=JL _ _ _;have H33:=Zh (amE (h.later Bw) (A8 hS Bw) fO hle yV Wj.2 P3 vu);go_enter Lp.func111,al0;go_wp2_with (go_at_call 33;refine H33.out.mono ?_;rintro e w1 ⟨u1,u2,u3,u4,u5,rfl,Bh,hC⟩;obtain⟨p1,d1,rfl,_⟩:=hC.base.val;obtain⟨p2,d2,rfl,_⟩:=hC.Ag.val;obtain⟨p3,d3,rfl,_⟩:=hC.hooks.val;obtain⟨p5,d5,rfl,_⟩:=hC.now.val;obtain⟨g,cap,rfl,hgm⟩:=hC.row.ptr (by omega));have ag5:=(Bh.block _ (by simp;omega)).trans ag4;have ag6:=(Bh.block _ (by simp)).trans dU;have BA:=Bw.trans (Bh.mono Bw.size);have El:=Bh.size;simp only[ZG]at El hC hgm;obtain⟨W4,Et⟩:∃W4,W4=w1.alloc (.cells #[.slice p1 c.base.length d1,.slice p2 c.Ag.length d2,.slice p3 c.hooks.length d3,.slice (some ⟨g,0,none⟩) c.Aa.length cap,.slice p5 c.now.length d5] 26):=⟨_,rfl⟩;have K5:Zm w1.heap.size w1 W4:=by rw[Et];exact bA (Zi _ _)
 have yM:MR w w1.heap.size g cap #[.slice a1 c.base.length c1,.slice a2 c.Ag.length c2,.slice a3 c.hooks.length c3,.slice a4 c.Aa.length c4,.slice a5 c.now.length c5] (.slice p1 c.base.length d1) (.slice p2 c.Ag.length d2) (.slice p3 c.hooks.length d3) (.slice p5 c.now.length d5) c 0 W4:=by
  refine⟨BA.trans (K5.mono BA.size),(K5.block _ (by omega)).trans ag5,(K5.block _ (by omega)).trans ag6,by rw[Et];exact Bv _ _,Ea hC.base K5,Mt hC.Ag K5,Ea hC.hooks K5,Ea hC.now K5,?_⟩;rw[List.take_zero,List.drop_zero,zE];exact hC.row.later K5
 obtain⟨q,hq⟩:∃q,q=w1.heap.size:=⟨_,rfl⟩;have UB:w.heap.size+1+1≤q:=by omega
 rw[←Et, ←hq];rw[←hq]at yM;clear Et K5 hC Bh ag5 ag6 ag4 dU BA Bw H33 hq El;go_loopg [5] c.Aa.length (fun gg i wr=>∃k:Nat,k≤c.Aa.length∧gg=c.Aa.length - k∧i=.int .i64 k∧MR w q g cap #[.slice a1 c.base.length c1,.slice a2 c.Ag.length c2,.slice a3 c.hooks.length c3,.slice a4 c.Aa.length c4,.slice a5 c.now.length c5] (.slice p1 c.base.length d1) (.slice p2 c.Ag.length d2) (.slice p3 c.hooks.length d3) (.slice p5 c.now.length d5) c k wr)
 case atStart=>exact⟨0,Zt _,rfl,rfl,yM⟩
 case round=>
  obtain⟨k,hk,rfl,rfl,hM⟩:=hrel;have ay:=hM.below.size;have jv:q<wr.heap.size:=(Za.1 hM.qx).1;have q3:=ch (i:=3) hM.qx (v:=.slice (some ⟨g,0,none⟩) c.Aa.length cap) rfl;by_cases Az:k<c.Aa.length
  ·obtain⟨m,hm⟩:∃m,m=c.Aa.length - 1 - k:=⟨_,rfl⟩
   have hmi:(c.Aa.length:Int) - 1 - (k:Int)=(m:Int):=by omega
   have hmn:m<c.Aa.length:=by omega
   have hmI:(m:Int)<(c.Aa.length:Int):=by omega
   have Tb:(k:Int)<(c.Aa.length:Int):=by omega
   obtain⟨b4,o4,s2,s3,rfl,S8,x0,x1,x2,x3,x4,hp,ho⟩:=h.Aa.at_ (i:=m) hmn;have FX:∀j u,w.cell? ⟨b4,j,none⟩=some u→wr.cell? ⟨b4,j,none⟩=some u:=fun j u hu=>(hM.below.cell (p:=⟨b4,j,none⟩) (hS b4 S8)).trans hu;replace x0:=FX _ _ x0;replace x1:=FX _ _ x1;replace x2:=FX _ _ x2;replace x3:=FX _ _ x3;replace x4:=FX _ _ x4;clear FX;replace hp:=hp.later hM.below;have ho0:=ho;replace ho:=ho.later hM.below;obtain⟨Me,QA⟩:=vu m hmn;have hoz:=kB m hmn;have hmr:(OH c.Aa)[k]?=some (jU c.Aa.length (Aj c.Aa m)):=by rw[hm];exact aS Az
   obtain⟨sm,Nz⟩:∃sm,sm=Aj c.Aa m:=⟨_,rfl⟩;rw[←Nz]at x0 x1 x4 hp ho ho0 Me QA hoz hmr;have HMR:=Zh hmr;clear Nz hm hmr;obtain⟨low,high,Ak,over,left⟩:=sm;dsimp only at x0 x1 x4 hp ho ho0 Me QA hoz;obtain⟨a6,c6,rfl,l6,m6⟩:=hp.val;obtain⟨a7,c7,rfl,l7,m7⟩:=ho.val;have b3:=ch (i:=3) hM.box (v:=.slice (some ⟨b4,o4,none⟩) c.Aa.length c4) rfl;go_wp2_with (go_at_call 86;refine(amG hp ho Me QA).mono ?_;rintro e w2 ⟨u2,u3,rfl,BA,KB,Mx⟩;obtain⟨p6,t6,rfl,_⟩:=KB.val;obtain⟨p7,t7,rfl,_⟩:=Mx.si.val);obtain⟨W5,I6⟩:∃W5,W5=w2.alloc (.cells #[.int .i64 low,.int .i64 high,.slice p6 Ak.length t6,.slice p7 over.length t7,.int .i64 left] 62):=⟨_,rfl⟩;have nZ:Zm w2.heap.size w2 W5:=by rw[I6];exact bA (Zi _ _)
   obtain⟨sb,fR⟩:∃sb,sb=w2.heap.size:=⟨_,rfl⟩;have hS5:W5.heap[sb]?=some (.cells #[.int .i64 low,.int .i64 high,.slice p6 Ak.length t6,.slice p7 over.length t7,.int .i64 left] 62 (0,0)):=by rw[I6,fR];exact Bv _ _
   have Ck:Zm wr.heap.size wr W5:=BA.trans (nZ.mono BA.size);have hP5:=dT (T:=fun _=>False) KB ((Am.later nZ).mono fun _ x=>x) fun _ _ x=>x;have hO5:Own W5 wr.heap.size (.slice p7 over.length t7) ((OG c.Aa.length over).take 0++over.drop 0):=by
    rw[List.take_zero,List.drop_zero,zE];exact Mx.later nZ
   have auz:wr.heap.size≤sb:=by rw[fR];exact BA.size
   rw[←I6, ←fR];clear I6 nZ BA KB Mx fR;obtain⟨wo,hwo⟩:∃wo,wo=wr:=⟨_,rfl⟩;subst hwo;go_loopg [7] over.length (fun gg i wx=>∃j:Nat,j≤over.length∧gg=over.length - j∧i=.int .i64 j∧Zm wo.heap.size wo wx∧wx.heap[sb]?=some (.cells #[.int .i64 low,.int .i64 high,.slice p6 Ak.length t6,.slice p7 over.length t7,.int .i64 left] 62 (0,0))∧Own wx wo.heap.size (.slice p7 over.length t7) ((OG c.Aa.length over).take j++over.drop j)∧SP (ND 64 wo.heap.size wx) wx (.slice p6 Ak.length t6) Ak)
   case atStart=>exact⟨0,Zt _,rfl,rfl,Ck,hS5,hO5,hP5⟩
   case round=>
    obtain⟨j,hj,rfl,rfl,VU,kF,hOj,hPj⟩:=hrel;have ag7:((OG c.Aa.length over).take j++over.drop j).length=over.length:=gu (Gk _ _) (by rw[Gk];exact hj);have t3:=ch (i:=3) kF (v:=.slice p7 over.length t7) rfl;have D1:=(Za.1 kF).1;have x3':=(VU.cell (p:=⟨b4,o4+m*5+3,none⟩) (ZH _ _ x3)).trans x3;have b3':=(VU.cell (p:=⟨w.heap.size,3,none⟩) (ZH _ _ b3)).trans b3;by_cases sX:j<over.length
    ·obtain⟨g3,jV,cur,e,uT,hc3,hn3,_,JN,aT⟩:=hOj.val (by rw[ag7];omega)
     rw[ag7]at e JN aT;cases e;obtain⟨jj,lx⟩:∃jj,jj=over.length - 1 - j:=⟨_,rfl⟩;have Lc:(over.length:Int) - 1 - (j:Int)=(jj:Int):=by omega
     have hjl:jj<over.length:=by omega
     have hjI:(jj:Int)<(over.length:Int):=by omega
     have auA:(j:Int)<(over.length:Int):=by omega
     obtain⟨b7,o7,rfl,Wi,hk7⟩:=ho.at_ hjl;have amL:=(VU.cell (p:=⟨b7,o7+jj,none⟩) (ZH _ _ hk7)).trans hk7;have hoy:=hoz _ (Yh (Bo hjl));have hmo:=Zh (SA (n:=c.Aa.length) sX);rw[←lx]at hmo;clear lx hk7;obtain⟨y,hy⟩:∃y,y=nth over jj:=⟨_,rfl⟩;rw[←hy]at amL hoy hmo;clear hy;have Qa:=ch hc3 (JN j sX);have CO:=cf (i:=j) hc3;have f_:g3<wr.heap.size:=(Za.1 hc3).1;have Pt:=Wj.2;have xm:IntKind.i64.wrap ((c.Aa.length:Int) - 1)=(c.Aa.length:Int) - 1:=by rw[Y5];omega
     have pz:IntKind.i64.wrap (m:Int)=(m:Int):=by rw[Y5];omega
     have hw3:IntKind.i64.wrap ((over.length:Int) - 1)=(over.length:Int) - 1:=by rw[Y5];omega
     have vM:IntKind.i64.wrap (jj:Int)=(jj:Int):=by rw[Y5];omega
     have hw5:IntKind.i64.wrap ((c.Aa.length:Int) - 1 - y)=(c.Aa.length:Int) - 1 - y:=by rw[Y5];omega
     go_wp2;go_still_tail 24,(by kernel_rfl);change wpList _ _ _ _ _ wr.drew;go_wp2;have Sz:Am (fun x=>x=g3) wr.drew (wr.drew.setCell ⟨g3,j,none⟩ (.int .i64 ((c.Aa.length:Int) - 1 - y))):=(Am.refl (fun x=>x=g3) wr.drew).DG;have hgs:g3≠sb:=fun e=>by subst e;rw[kF]at hc3;cases hc3
     have hO2:Own (wr.drew.setCell ⟨g3,j,none⟩ (.int .i64 ((c.Aa.length:Int) - 1 - y))) wo.heap.size (.slice (some ⟨g3,0,none⟩) over.length t7) ((OG c.Aa.length over).take (j+1)++over.drop (j+1)):=by
      rw[←gq (Gk _ _) hmo.out];exact aT j _ sX
     have hPd:=dT (T:=fun _=>False) hPj ((Am.later (Zi wr.heap.size wr).drew).mono fun _ x=>x) fun _ _ x=>x;have hP2:=dT hPd Sz (fun x hx e=>by
      obtain⟨_,cs,h2⟩:=hx;rw[show x=g3 from e]at h2;rw[show wr.drew.heap[g3]?=wr.heap[g3]? from rfl,hc3]at h2;cases h2)
     go_roundg (over.length - (j+1))
     case rel=>exact⟨j+1,sX,rfl,by go_num,bS VU.drew uT,(AW (fun e=>hgs e.symm) _).trans kF,hO2,hP2⟩
     case measure=>omega
    ·have hje:j=over.length:=by omega
     subst hje;rw[gr (Gk _ _) (by rw[Gk];exact Zj _)]at hOj;have e0:=ch (i:=0) kF (v:=.int .i64 low) rfl;have e1:=ch (i:=1) kF (v:=.int .i64 high) rfl;have e2:=ch (i:=2) kF (v:=.slice p6 Ak.length t6) rfl;have e4:=ch (i:=4) kF (v:=.int .i64 left) rfl;have hqx:=(VU.block q jv).trans hM.qx;have qq3:=ch (i:=3) hqx (v:=.slice (some ⟨g,0,none⟩) c.Aa.length cap) rfl;have sY:((OH c.Aa).take k++c.Aa.drop k).length=c.Aa.length:=gu (Gl _) (by rw[Gl];exact hk);have Ds:=hM.row.later VU;rw[←sY]at Ds;obtain⟨cur,OJ,JN⟩:=Ds.cells (i:=k) (by rw[sY];exact Az);obtain⟨g0,hg0⟩:=JN 0 (by omega);obtain⟨g1,hg1⟩:=JN 1 (by omega);obtain⟨g2,rE⟩:=JN 2 (by omega);obtain⟨g3,uT⟩:=JN 3 (by omega);obtain⟨g4,hg4⟩:=JN 4 (by omega);have c0:=ch OJ hg0;have c1':=ch OJ hg1;have c2':=ch OJ rE;have c3':=ch OJ uT;have c4':=ch OJ hg4;have f0:=cf (i:=k*5) OJ;have f1:=cf (i:=k*5+1) OJ;have f2:=cf (i:=k*5+2) OJ;have f3:=cf (i:=k*5+3) OJ;have f4:=cf (i:=k*5+4) OJ;rw[Nat.add_zero]at c0;have QC:w.heap.size+1+1≤g:=hgm;have hgq:g≠q:=fun e=>by rw[e,hqx]at OJ;cases OJ
     have hzo:wo.heap.size≤wr.heap.size:=VU.size;have hRs:Rs (TT (w.heap.size+1+1) wr) wr [.int .i64 low,.int .i64 high,.slice p6 Ak.length t6,.slice p7 over.length t7,.int .i64 left] (jU c.Aa.length ⟨low,high,Ak,over,left⟩):=by
      have hO':SI (TT wo.heap.size wr) wr (.slice p7 over.length t7) (OG c.Aa.length over):=hOj.tt;exact⟨_,_,rfl,Sl.imp hPj (fun b hb=>⟨by have:=hb.1.1;omega,by obtain⟨cs,h⟩:=hb.2;exact⟨cs,64,h,.inr (.inl rfl)⟩⟩) (fun _ _ x=>x),Nr hO' (by omega)⟩
     have aax:=Ds.put (i:=k) (s:=jU c.Aa.length ⟨low,high,Ak,over,left⟩) (by rw[sY];exact Az) hRs;rw[sY,gq (Gl _) HMR.out]at aax;have I1:Am (fun x=>x=g) wr (((((wr.setCell ⟨g,k*5,none⟩ (.int .i64 low)).setCell ⟨g,k*5+1,none⟩ (.int .i64 high)).setCell ⟨g,k*5+2,none⟩ (.slice p6 Ak.length t6)).setCell ⟨g,k*5+3,none⟩ (.slice p7 over.length t7)).setCell ⟨g,k*5+4,none⟩ (.int .i64 left)):=(Am.refl (fun x=>x=g) wr).DG.DG.DG.DG.DG;have BI:∀x,TT (w.heap.size+1+1) wr x→¬x=g:=fun x hx e=>TT.not (e▸hx) OJ ⟨by decide,by decide,by decide⟩;have Uj:MR w q g cap #[.slice a1 c.base.length c1,.slice a2 c.Ag.length c2,.slice a3 c.hooks.length c3,.slice (some ⟨b4,o4,none⟩) c.Aa.length c4,.slice a5 c.now.length c5] (.slice p1 c.base.length d1) (.slice p2 c.Ag.length d2) (.slice p3 c.hooks.length d3) (.slice p5 c.now.length d5) c (k+1) (((((wr.setCell ⟨g,k*5,none⟩ (.int .i64 low)).setCell ⟨g,k*5+1,none⟩ (.int .i64 high)).setCell ⟨g,k*5+2,none⟩ (.slice p6 Ak.length t6)).setCell ⟨g,k*5+3,none⟩ (.slice p7 over.length t7)).setCell ⟨g,k*5+4,none⟩ (.int .i64 left)):=by
      refine⟨bS (bS (bS (bS (bS (hM.below.trans (VU.mono hM.below.size)) (by omega)) (by omega)) (by omega)) (by omega)) (by omega),?_,?_,?_,QE (Ea hM.base VU) I1 BI,kI (Mt hM.Ag VU) I1 BI,QE (Ea hM.hooks VU) I1 BI,QE (Ea hM.now VU) I1 BI,aax⟩
      ·exact(I1.block _ (by omega) (by omega)).trans ((VU.block _ (by omega)).trans hM.box)
      ·exact(I1.block _ (by omega) (by omega)).trans ((VU.block _ (by omega)).trans hM.res)
      ·exact(I1.block _ (by omega) (fun e=>hgq e.symm)).trans hqx
     have HM2:=Zh Uj;clear Uj aax Ds hM hRs I1 BI;go_wp2;go_roundg (c.Aa.length - (k+1))
     case rel=>exact⟨k+1,Az,rfl,by go_num,HM2.out⟩
     case measure=>omega
  ·have Wk:k=c.Aa.length:=by omega
   have Ds:=hM.row;rw[Wk,gr (Gl _) (by rw[Gl];exact Zj _)]at Ds;subst Wk;have q0:=ch (i:=0) hM.qx (v:=.slice p1 c.base.length d1) rfl;have q1:=ch (i:=1) hM.qx (v:=.slice p2 c.Ag.length d2) rfl;have q2:=ch (i:=2) hM.qx (v:=.slice p3 c.hooks.length d3) rfl;have q4:=ch (i:=4) hM.qx (v:=.slice p5 c.now.length d5) rfl;have f0:=cf (i:=0) hM.res;have f1:=cf (i:=1) hM.res;have f2:=cf (i:=2) hM.res;have f3:=cf (i:=3) hM.res;have f4:=cf (i:=4) hM.res;have r0:=ch (i:=0) hM.res (v:=.slice none 0 0) rfl;have r1:=ch (i:=1) hM.res (v:=.slice none 0 0) rfl;have r2:=ch (i:=2) hM.res (v:=.slice none 0 0) rfl;have r3:=ch (i:=3) hM.res (v:=.slice none 0 0) rfl;have r4:=ch (i:=4) hM.res (v:=.slice none 0 0) rfl;have El:w.heap.size+1<wr.heap.size:=(Za.1 hM.res).1;have HM:=Zh hM;have HRW:=Zh Ds;clear hM Ds;go_wp2;obtain⟨wo,hwo⟩:∃wo,wo=wr:=⟨_,rfl⟩;have HWO:=Zh hwo;clear hwo;go_loopg [8] 0 (fun gg i wx=>i=.int .i64 0∧wx=wr)
   case atStart=>exact⟨rfl,rfl⟩
   case round=>
   obtain⟨rfl,hwx⟩:=hrel;obtain rfl:=hwx.symm;go_wp2;refine ZX (v:=.agg #[.slice p1 c.base.length d1,.slice p2 c.Ag.length d2,.slice p3 c.hooks.length d3,.slice (some ⟨g,0,none⟩) c.Aa.length cap,.slice p5 c.now.length d5]) (by rw[A3 rfl];go_simp) rfl ?_;have key:∀X,Zm w.heap.size w X→Am (fun x=>x=w.heap.size+1) wr X→QF w (OI c) (.returned (.agg #[.slice p1 c.base.length d1,.slice p2 c.Ag.length d2,.slice p3 c.hooks.length d3,.slice (some ⟨g,0,none⟩) c.Aa.length cap,.slice p5 c.now.length d5])) X:=fun X NF OD=>by
    have hn:∀x,TT (w.heap.size+1+1) wr x→¬x=w.heap.size+1:=fun x hx e=>by have:=hx.1;omega
    have kJ:w.heap.size≤w.heap.size+1+1:=by omega
    have hg:∀x,(Zy (some ⟨g,0,none⟩) c.Aa.length cap).ownBlock=some x→¬x=w.heap.size+1:=fun x hx e=>by have:=(HRW.out.own x hx).1;omega
    exact⟨_,_,_,_,_,rfl,NF,Nr (QE HM.out.base OD hn) kJ,VT (kI HM.out.Ag OD hn) kJ,Nr (QE HM.out.hooks OD hn) kJ,Nr (QE HM.out.now OD hn) kJ,(HRW.out.Du OD hn hg).mono kJ⟩
   have KC:=HM.out.below;refine key _ ?_ ?_
   ·repeat (with_reducible first|exact KC|(refine bS ?_ (by omega)))
   ·repeat (with_reducible first|exact Am.refl _ _|(refine Am.DG ?_))
def Jz (g:Nat)(l:List Ax):Prop:=∀i,i<l.length→LD g l.length i (Aj l i)∧∀x∈(Aj l i).over,(i:Int)<x
def FO (g:Nat)(l:List Ax):Prop:=∀i,i<l.length→LD g l.length i (Aj l i)∧∀x∈(Aj l i).over,x<(i:Int)
theorem aU {n:Nat}{o:List Int}{y:Int}(h:y∈OG n o):∃x∈o,y=(n:Int) - 1 - x:=by
 unfold OG at h;obtain⟨k,hk,rfl⟩:=List.mem_map.1 h;have JS:k<o.length:=by simpa using hk
 exact⟨_,Yh (Bo (show o.length - 1 - k<o.length by omega)),rfl⟩
theorem sZ {n:Nat}{o:List Int}(h:o.Pairwise (· < ·)):(OG n o).Pairwise (· < ·):=by
 rw[List.pairwise_iff_getElem];intro i j hi hj hij;rw[Gk]at hi hj;have h1:=SA (n:=n) hi;have h2:=SA (n:=n) hj;rw[Z7 (by rw[Gk];exact hi)]at h1;rw[Z7 (by rw[Gk];exact hj)]at h2;rw[Z2 h1,Z2 h2];have:=List.pairwise_iff_getElem.1 h (o.length - 1 - j) (o.length - 1 - i) (by omega) (by omega) (by omega);have e1:=Bo (l:=o) (show o.length - 1 - j<o.length by omega);have e2:=Bo (l:=o) (show o.length - 1 - i<o.length by omega);rw[Z7 (by omega)]at e1 e2;rw[Z2 e1,Z2 e2]at this;omega
theorem oM {g:Nat}{l:List Ax}(h:Jz g l):FO g (OH l):=by
 intro i hi;rw[Gl]at hi⊢;have e:Aj (OH l) i=jU l.length (Aj l (l.length - 1 - i)):=by
  have:=Dk (l:=OH l) (by rw[Gl];exact hi);rw[aS hi]at this;exact(Z2 this).symm
 obtain⟨hm,hu⟩:=h (l.length - 1 - i) (by omega);rw[e];refine⟨⟨hm.step,hm.few,hm.pull,hm.twice,fun y hy=>?_,sZ hm.rising,hm.left⟩,fun y hy=>?_⟩
 ·obtain⟨x,hx,rfl⟩:=aU hy
  have h1:=hm.over x hx;have h2:=hu x hx;omega
 ·obtain⟨x,hx,rfl⟩:=aU hy
  have h2:=hu x hx;omega
theorem gw {c:Aw}(h1:1≤c.base.length∧c.base.length≤3)(h2:∀x∈c.base,20≤x∧x≤30)(h3:c.Ag.length=c.base.length)(h4:∀p∈c.Ag,-2≤p.1∧p.1≤p.2∧p.2≤5)(h5:c.hooks.length=c.base.length)(h6:∀x∈c.hooks,0≤x∧x≤5)(h7:1≤c.Aa.length∧c.Aa.length≤3)
  (h8:Jz c.base.length c.Aa∨FO c.base.length c.Aa) (h9:Sr c c.now):JM c:=by
 refine⟨h1,h2,h3,h4,h5,h6,h7,fun i hi=>?_,?_,h9⟩
 ·rcases h8 with h|h
  ·exact(h i hi).1
  ·exact(h i hi).1
 ·rcases h8 with h|h
  ·exact .inl fun i hi=>(h i hi).2
  ·exact .inr fun i hi=>(h i hi).2
theorem s9 {g n:Nat}{l:List Ax}{s:Ax}(h:∀i,i<l.length→LD g n i (Aj l i)∧∀x∈(Aj l i).over,(i:Int)<x)(hs:LD g n l.length s)(ho:∀x∈s.over,(l.length:Int)<x):∀i,i<(l++ [s]).length→LD g n i (Aj (l++ [s]) i)∧∀x∈(Aj (l++ [s]) i).over,(i:Int)<x:=by
 intro i hi;rw[ZV,zK,zY]at hi;by_cases hl:i<l.length
 ·rw[show Aj (l++ [s]) i=Aj l i by simp[Aj,zP,zD hl]]
  exact h i hl
 ·obtain rfl:i=l.length:=by omega
  rw[show Aj (l++ [s]) l.length=s by simp[Aj]];exact⟨hs,ho⟩
theorem UD {A:Zb}{b1 b3:Nat}{v1 v3:Zc}{l1 l3:List Int}(h1:Own A b1 v1 l1)(h3:Own A b3 v3 l3)(p1:0<l1.length)(p3:0<l3.length)(BI:nth l1 0≠nth l3 0):∀x,v1.ownBlock=some x→¬v3.ownBlock=some x:=by
 intro x hx bu;obtain⟨g,cap,cur,e,_,hg,_,_,hc,_⟩:=h1.val p1;obtain⟨g',GI,cF,e',_,Gu,_,_,NT,_⟩:=h3.val p3;subst e e';cases hx;cases bu;rw[hg]at Gu;cases Gu;have a:=hc 0 p1;have b:=NT 0 p3;rw[a]at b;have hb:=Z2 b;simp only[Value.int.injEq,true_and]at hb;exact BI hb
structure LW (b:Nat)(lv:Zc)(w:Zb)(d:Nat)(W:Zb):Prop where
 Cd:Cf b w W
 FQ:Ca W b lv d
theorem LW.alloc {b d:Nat}{lv:Zc}{w W:Zb}(h:LW b lv w d W)(o:Obj):LW b lv w d (W.alloc o):=⟨h.Cd.below (bA (Zi _ _)),h.FQ.later (bA (Zi _ _))⟩
theorem LW.drew {b d:Nat}{lv:Zc}{w W:Zb}(h:LW b lv w d W):LW b lv w d W.drew:=⟨h.Cd.below (Zi _ _).drew,h.FQ.later (Zi _ _).drew⟩
theorem LW.step {b d d':Nat}{lv:Zc}{w W W':Zb}(h:LW b lv w d W)(hU:Cf b W W')(hL:Ca W' b lv d'):LW b lv w d' W':=⟨h.Cd.trans hU,hL⟩
theorem LW.refl {b d:Nat}{lv:Zc}{w:Zb}(h:Ca w b lv d):LW b lv w d w:=⟨Cf.refl _ _,h⟩
theorem LW.below {b d:Nat}{lv:Zc}{w W W':Zb}(h:LW b lv w d W)(hB:Zm W.heap.size W W'):LW b lv w d W':=⟨h.Cd.below hB,h.FQ.later hB⟩
section
variable {Sn:Nat→Prop}{w:Zb}{lv:Zc}{nums:List Int}{b:Nat}
def Dr (b:Nat)(lv:Zc)(w:Zb)(d m:Nat)(lo:Int)(W:Zb)(e:Ending)(W':Zb):Prop:=∃(r d':Nat),e=.returned (.int .i64 (lo+r))∧r≤m∧Cf b W W'∧LW b lv w d' W'∧d'≤d+1
theorem aga (hn:SI Sn w lv nums)(GY:∀x,Sn x→x<w.heap.size∧x≠b){W:Zb}{d:Nat}{lo hi:Int}(hL:LW b lv w d W)(hd:d<4611686018427387904)(h1: -1000000≤lo∧lo≤1000000)(h2: -1000000≤hi∧hi≤1000000):
  Calls Lp 61 #[.pointer (some ⟨b,0,none⟩),.int .i64 lo,.int .i64 hi] W (Dr b lv w d (hi - lo).toNat lo W):=
 (c61 (hn.Cd hL.Cd GY) (KL hL.Cd GY) hL.FQ hd h1 h2).mono fun _ _ ⟨r,d',he,hr,hU,SJ,bw⟩=>⟨r,d',he,hr,hU,hL.step hU SJ,bw⟩
theorem agb (hn:SI Sn w lv nums)(GY:∀x,Sn x→x<w.heap.size∧x≠b){W:Zb}{d:Nat}{n:Int}(hL:LW b lv w d W)(hd:d<4611686018427387904)(h2:n≤1000000):
  Calls Lp 29 #[.pointer (some ⟨b,0,none⟩),.int .i64 n] W fun e W'=>∃(r d':Nat),e=.returned (.int .i64 r)∧r≤n.toNat∧Cf b W W'∧LW b lv w d' W'∧d'≤d+1:=
 (c29 (hn.Cd hL.Cd GY) (KL hL.Cd GY) hL.FQ hd (by omega)).mono fun _ _ ⟨r,d',he,hr,hU,SJ,bw⟩=>⟨r,d',he,hr,hU,hL.step hU SJ,bw⟩
theorem agc (hn:SI Sn w lv nums)(GY:∀x,Sn x→x<w.heap.size∧x≠b){W:Zb}{d:Nat}{n:Int}(hL:LW b lv w d W)(hd:d<4611686018427387904)(h2: -1000000≤n∧n≤1000000):
  Calls Lp 99 #[.pointer (some ⟨b,0,none⟩),.int .i64 n] W fun e W'=>∃(r:Bool) (d':Nat),e=.returned (.bool r)∧Cf b W W'∧LW b lv w d' W'∧d'≤d+1:=
 (c99 (hn.Cd hL.Cd GY) (KL hL.Cd GY) hL.FQ hd h2).mono fun _ _ ⟨r,d',he,hU,SJ,bw⟩=>⟨r,d',he,hU,hL.step hU SJ,bw⟩
theorem agd (hn:SI Sn w lv nums)(GY:∀x,Sn x→x<w.heap.size∧x≠b){W:Zb}{d:Nat}{s:List Int}(hL:LW b lv w d W)(hd:d<4611686018427387904)(h1:1≤s.length)(h2:s.length≤1000):
  Calls Lp 98 #[.pointer (some ⟨b,0,none⟩),.slice (some ⟨W.heap.size,0,none⟩) s.length s.length] (W.alloc (.cells (s.map (ZT .i64)).toArray 3)) fun e W'=>∃(r d':Nat),e=.returned (.int .i64 (nth s r))∧r<s.length∧Cf b (W.alloc (.cells (s.map (ZT .i64)).toArray 3)) W'∧LW b lv w d' W'∧d'≤d+1:=by
 have SJ:=hL.alloc (.cells (s.map (ZT .i64)).toArray 3);refine(c98 (T:=fun x=>x=W.heap.size) (hn.Cd SJ.Cd GY) (KL SJ.Cd GY) SJ.FQ hd (Mn s (Bv _ _) rfl (by unfold maxLen;omega)) (fun x hx=>by have:=hL.FQ.lt;subst hx;simp;omega) h1 h2).mono ?_;rintro _ _ ⟨r,d',he,hr,hU,pX,bw⟩;exact⟨r,d',he,hr,hU,SJ.step hU pX,bw⟩
end
def Li (w:Zb)(base:Nat)(v:Zc)(l:List (Int×Int))(e:Zs):Prop:=w.ownsRow base e 2 v l.length (l.flatMap fun p=> [ZT .i64 p.1,.int .i64 p.2])
theorem dV (l:List (Int×Int))(i:Nat)(p:Int×Int)(h:l[i]?=some p):((l.flatMap fun p=> [ZT .i64 p.1,.int .i64 p.2]).drop (i*2)).take 2=[.int .i64 p.1,.int .i64 p.2]:=by
 induction l generalizing i with
 |nil=>cases h
 |cons q r ih=>
  cases i with
  |zero=>cases h;rfl
  |succ i=>
   have:=ih i (by simpa using h);rw[List.flatMap_cons,show(i+1)*2=i*2+2 by omega,show([ZT .i64 q.1,.int .i64 q.2]++r.flatMap fun p=> [ZT .i64 p.1,.int .i64 p.2]).drop (i*2+2)=(r.flatMap fun p=> [ZT .i64 p.1,.int .i64 p.2]).drop (i*2) by rw[show i*2+2=2+i*2 by omega, ←List.drop_drop];rfl];exact this
theorem Li.tt {w:Zb}{base:Nat}{v:Zc}{l:List (Int×Int)}{e:Zs}(h:Li w base v l e)(he:e=3∨e=64∨e=80):SP (TT base w) w v l:=
 Sl.imp (Mr (R:=Rp) (by decide) h fun i x hx=>dV l i x hx) (fun b hb=>⟨hb.1.1,by obtain⟨cs,h⟩:=hb.2;exact⟨cs,e,h,he⟩⟩) fun _ _ x=>x
theorem five {r:Nat}(h:r<5):nth [1,2,3,-1,-2] r≠0∧-4≤nth [1,2,3,-1,-2] r∧nth [1,2,3,-1,-2] r≤4:=by
 have:r=0∨r=1∨r=2∨r=3∨r=4:=by omega
 rcases this with rfl|rfl|rfl|rfl|rfl<;>decide
theorem age {r:Nat}(h:r<5):nth [1,2,-1,-4,4] r≠0∧-4≤nth [1,2,-1,-4,4] r∧nth [1,2,-1,-4,4] r≤4:=by
 have:r=0∨r=1∨r=2∨r=3∨r=4:=by omega
 rcases this with rfl|rfl|rfl|rfl|rfl<;>decide
theorem four {r m:Nat}(hm:m≤4)(h:r<4):0≤nth [1,2,4,(m:Int)] r∧nth [1,2,4,(m:Int)] r≤4:=by
 have:r=0∨r=1∨r=2∨r=3:=by omega
 rcases this with rfl|rfl|rfl|rfl<;>simp[nth]<;>omega
theorem Li.Cd {w W:Zb}{base q:Nat}{v:Zc}{l:List (Int×Int)}{e:Zs}(h:Li w base v l e)(hB:Cf q w W)(hq:q<base):Li W base v l e:=F2 h hB hq
theorem LW.DS {b d q i:Nat}{lv v:Zc}{w W:Zb}(h:LW b lv w d W)(hb:b<w.heap.size)(hq:w.heap.size≤q):LW b lv w d (W.setCell ⟨q,i,none⟩ v):=
 ⟨h.Cd.DS hq,h.FQ.of (AW (by omega) _)⟩
def aay (g:Nat)(pl:List (Int×Int)):Prop:=(1≤pl.length∧pl.length≤2)∧(∀p∈pl,0≤p.1∧p.1<g∧p.2≠0∧-4≤p.2∧p.2≤4)∧(pl.length=2→(B1 pl 1).1≠(B1 pl 0).1)
theorem aaz {g gi:Nat}{y:Int}(h:gi<g)(hy:y≠0∧-4≤y∧y≤4):aay g [((gi:Int),y)]:=
 ⟨⟨by simp,by simp⟩,fun p hp=>by simp at hp;subst hp;simp only;omega,fun h=>by simp at h⟩
theorem aaA {g gi o2:Nat}{y z:Int}(h:gi<g)(hy:y≠0∧-4≤y∧y≤4)(h2:o2<g)(BI:o2≠gi)(hz:z≠0∧-4≤z∧z≤4):aay g [((gi:Int),y),((o2:Int),z)]:=
 ⟨⟨by simp,by simp⟩,fun p hp=>by simp at hp;rcases hp with rfl|rfl<;>simp only<;>omega,fun _=>by simp[B1];omega⟩
theorem SB {base q i n k:Nat}{e e':Zs}{A:Zb}{v u:Zc}{xs:List Zc}{cs:Array Zc}(h:A.ownsRow base e k v n xs)(hq:A.heap[q]?=some (.cells cs e' (0,0)))(he:e≠e'):(A.setCell ⟨q,i,none⟩ u).ownsRow base e k v n xs:=by
 refine⟨h.1,?_⟩;rcases h.2 with h1|⟨g,cap,cur,h1,h2,h3,h4⟩
 ·exact .inl h1
 ·exact .inr ⟨g,cap,cur,h1,h2,(AW (fun e0=>by subst e0;rw[h3]at hq;cases hq;exact he rfl) _).trans h3,h4⟩
theorem Ns {base n k:Nat}{e:Zs}{A:Zb}{v:Zc}{xs:List Zc}(h:A.ownsRow base e k v n xs):∀x,v.ownBlock=some x→base≤x∧∃cs,A.heap[x]?=some (.cells cs e (0,0)):=fun x hx=>by
 rcases h.2 with⟨e,_⟩|⟨g,cap,cur,e,h3,h4,_⟩
 ·rw[e]at hx;cases hx
 ·rw[e]at hx;cases hx;exact⟨h3,cur,h4⟩
theorem ES {base n k:Nat}{e:Zs}{A B:Zb}{v:Zc}{xs:List Zc}{T:Nat→Prop}(h:A.ownsRow base e k v n xs)(hT:Am T A B)(hx:∀x cs,A.heap[x]?=some (Obj.cells cs e (0,0))→¬T x):B.ownsRow base e k v n xs:=by
 refine⟨h.1,?_⟩;rcases h.2 with h1|⟨g,cap,cur,h1,h2,h3,h4⟩
 ·exact .inl h1
 ·exact .inr ⟨g,cap,cur,h1,h2,(hT.block g (Za.1 h3).1 (hx g cur h3)).trans h3,h4⟩
theorem aV {w:Zb}{b base:Nat}{g y:Int}(hR:w.heap[b]?=some (.cells #[.int .i64 g,.int .i64 y] 64 (0,0)))(hb:base≤b):Li w base (.slice (some ⟨b,0,none⟩) 1 1) [(g,y)] 64:=
 ⟨rfl,.inr ⟨b,1,_,rfl,hb,hR,Zj _,by decide,rfl,rfl⟩⟩
def oN (w:Zb)(b:Nat)(lv:Zc)(d g n o:Nat)(e:Ending)(w':Zb):Prop:=∃(s:Ax) (v2 v3:Zc) (d':Nat),e=.returned (.agg #[.int .i64 s.low,.int .i64 s.high,v2,v3,.int .i64 s.left])∧LW b lv w d' w'∧d'≤d+20∧SP (TT w.heap.size w') w' v2 s.Ak∧SI (TT w.heap.size w') w' v3 s.over∧LD g n o s∧∀x∈s.over,(o:Int)<x
theorem amO {Sn:Nat→Prop}{w:Zb}{lv:Zc}{nums:List Int}{b d g n o:Nat}(hn:SI Sn w lv nums)(GY:∀x,Sn x→x<w.heap.size∧x≠b)(hL:Ca w b lv d)(hd:d+20<4611686018427387904)(hg:1≤g∧g≤3)(Kh:o<n)(hn3:n≤3):
  Calls Lp 110 #[.pointer (some ⟨b,0,none⟩),.int .i64 g,.int .i64 n,.int .i64 o] w (oN w b lv d g n o):=by
 have I3:=DN;have vN:=Zh (fun W d lo hi hL hd h1 h2=>aga (W:=W) (d:=d) (lo:=lo) (hi:=hi) hn GY hL hd h1 h2);have kH:=Zh (fun W d n hL hd h2=>agb (W:=W) (d:=d) (n:=n) hn GY hL hd h2);have H99:=Zh (fun W d n hL hd h2=>agc (W:=W) (d:=d) (n:=n) hn GY hL hd h2);have H98:=Zh (fun W d s hL hd h1 h2=>agd (W:=W) (d:=d) (s:=s) hn GY hL hd h1 h2);have hLW:=LW.refl hL;have GN:=hL.lt;have m1:=Yo;have m2:=Yo;have m3:=Yo;have m4:=Yo;have m5:=Yo;have m6:=Yo;have m7:=Yo;have m8:=Yo;have m9:=Yo;have JZ:=Bv w (.cells #[.int .i64 0,.int .i64 0,.slice none 0 0,.slice none 0 0,.int .i64 0] 62);go_enter Lp.func110,akZ;go_wp2_with (first|(go_at_call 61;clear m1;refine(vN.out _ _ _ _ (hLW.alloc _) (by omega) (by omega) (by omega)).mono ?_;rintro e W1 ⟨r0,d1,rfl,rq,Qe,tc,hd1⟩;have JZ:=Qe.at_ JZ (by omega))|(go_at_call 61;clear m2;refine(vN.out _ _ _ _ tc (by omega) (by omega) (by omega)).mono ?_;rintro e W2 ⟨r1,d2,rfl,Wc,Sg,Qh,hd2⟩;have JZ:=Sg.at_ JZ (by omega))|(go_at_call 61;clear m3;refine(vN.out _ _ _ _ Qh (by omega) (by omega) (by omega)).mono ?_;rintro e W3 ⟨r2,d3,rfl,PV,J0,amP,hd3⟩;have JZ:=J0.at_ JZ (by omega))|(go_at_call 29;clear m4;refine(kH.out _ _ _ amP (by omega) (by omega)).mono ?_;rintro e W4 ⟨gi,d4,rfl,pE,Tj,amR,hd4⟩;have JZ:=Tj.at_ JZ (by omega))|(go_at_call 98;clear m5;refine(H98.out _ _ [1,2,3,-1,-2] amR (by omega) (by decide) (by decide)).mono ?_;rintro e W5 ⟨r5,d5,rfl,gy,gC,amS,hd5⟩;obtain⟨y1,kD,kC,hya,hyb⟩:∃y,y=nth [1,2,3,-1,-2] r5∧(y≠0∧-4≤y∧y≤4):=⟨_,rfl,five gy⟩;rw[←kD];clear kD;have JZ:=gC.at_ (Bm JZ _) (by omega))|(go_at_call 29;clear m6;(have hw5:w.heap.size+1≤W5.heap.size:=by have h1:=Qe.size;have h2:=Sg.size;have h3:=J0.size;have h4:=Tj.size;have h5:=gC.size;simp only[ZG]at h1 h5;omega);have hR:=Bv W5 (.cells #[.int .i64 gi,.int .i64 y1] 64);refine(kH.out _ _ _ (amS.alloc _) (by omega) (by omega)).mono ?_;rintro e W6 ⟨r6,d6,rfl,hr6,gE,amT,hd6⟩;have hR:=gE.at_ hR (by omega);have JZ:=gE.at_ (Bm JZ _) (by omega))|(go_at_call 98;clear m7;refine(H98.out _ _ [1,2,4,(r6:Int)] amT (by omega) (by simp) (by simp)).mono ?_;rintro e W7 ⟨r7,d7,rfl,hr7,hU7,amV,hd7⟩;have hR:=hU7.at_ (Bm hR _) (by omega);have JZ:=hU7.at_ (Bm JZ _) (by omega);obtain⟨y2,hy2,hyc,hyd⟩:∃y,y=nth [1,2,4,(r6:Int)] r7∧(0≤y∧y≤4):=⟨_,rfl,four (by omega) hr7⟩;rw[←hy2];clear hy2;have JZ:=Bm JZ (.cells #[.int .i64 (-2+(r0:Int)),.int .i64 (-2+(r0:Int)+(r2:Int)),.slice (some ⟨W5.heap.size,0,none⟩) 1 1,.slice none 0 0,.int .i64 y2] 62);have hR:=Bm hR (.cells #[.int .i64 (-2+(r0:Int)),.int .i64 (-2+(r0:Int)+(r2:Int)),.slice (some ⟨W5.heap.size,0,none⟩) 1 1,.slice none 0 0,.int .i64 y2] 62);have Hq:=Bv W7 (.cells #[.int .i64 (-2+(r0:Int)),.int .i64 (-2+(r0:Int)+(r2:Int)),.slice (some ⟨W5.heap.size,0,none⟩) 1 1,.slice none 0 0,.int .i64 y2] 62);have Nt:=amV.alloc (.cells #[.int .i64 (-2+(r0:Int)),.int .i64 (-2+(r0:Int)+(r2:Int)),.slice (some ⟨W5.heap.size,0,none⟩) 1 1,.slice none 0 0,.int .i64 y2] 62);obtain⟨dx,hdx⟩:∃dx,dx=d7:=⟨_,rfl⟩;rw[←hdx]at Nt;obtain⟨qb,y8⟩:∃qb,qb=W7.heap.size:=⟨_,rfl⟩;(have hqw:W5.heap.size<qb:=by have h6:=gE.size;have h7:=hU7.size;simp only[ZG]at h6 h7;omega);rw[←y8]at Hq;obtain⟨X,jW⟩:∃X,X=W7.alloc (.cells #[.int .i64 (-2+(r0:Int)),.int .i64 (-2+(r0:Int)+(r2:Int)),.slice (some ⟨W5.heap.size,0,none⟩) 1 1,.slice none 0 0,.int .i64 y2] 62):=⟨_,rfl⟩;rw[←jW]at hR Hq Nt JZ)|(go_at_call 99;clear m8;rw[←jW];refine(H99.out _ _ _ Nt (by omega) (by omega)).mono ?_;rintro e X ⟨rb,d8,rfl,sx,Nt,hd8⟩;have hR:=sx.at_ hR (by omega);have JZ:=sx.at_ JZ (by omega);have Hq:=sx.at_ Hq (by omega);obtain⟨dx,hdx⟩:∃dx,dx=d8:=⟨_,rfl⟩;rw[←hdx]at Nt)|(go_at_call 29;clear m9;refine(kH.out _ _ _ Nt (by omega) (by omega)).mono ?_;rintro e X ⟨oi,d9,rfl,hoi,hU9,Nt,hd9⟩;have hR:=hU9.at_ hR (by omega);have JZ:=hU9.at_ JZ (by omega);have Hq:=hU9.at_ Hq (by omega);obtain⟨dx,hdx⟩:∃dx,dx=d9:=⟨_,rfl⟩;rw[←hdx]at Nt;have cb:=ch (i:=2) Hq (v:=.slice (some ⟨W5.heap.size,0,none⟩) 1 1) rfl;have cp:=ch (i:=0) hR (v:=.int .i64 gi) rfl;rw[y8]at cb))
 all_goals try (
  have kp:=cb;clear cb cp kp;have rE:2≤g:=by omega
  first
   |(have hgo:gi≤oi:=by assumption
     obtain⟨o2,ly,hoa,hob⟩:∃o2:Nat,(oi:Int)+1=(o2:Int)∧o2<g∧o2≠gi:=⟨oi+1,by omega,by omega,by omega⟩;rw[ly])
   |(obtain⟨o2,ly,hoa,hob⟩:∃o2:Nat,o2=oi∧o2<g∧o2≠gi:=⟨oi,rfl,by omega,by omega⟩
     rw[←ly])
  clear ly;obtain⟨K,K8⟩:∃K:Nat→Prop,K=fun x=>x=b∨w.heap.size<x∧x≠qb:=⟨_,rfl⟩;have pW:K b:=by rw[K8];exact .inl rfl
  have fF:∀x,w.heap.size<x→x≠qb→K x:=fun x hx hq=>by rw[K8];exact .inr ⟨hx,hq⟩
  have gp:¬K qb:=by rw[K8];intro x;omega
  have oJ:¬K w.heap.size:=by rw[K8];intro x;omega
  clear K8;rw[←y8];clear y8 jW;have z0:=fun p:Tw K X=>p.cell (ch (i:=2) Hq (v:=.slice (some ⟨W5.heap.size,0,none⟩) 1 1) rfl) gp;have vO:qb<X.heap.size:=(Za.1 Hq).1;have hbX:b<X.heap.size:=Nt.FQ.lt;refine C5 (S:=fun W=>∃p:Tw K X,W=p.v) [10] [(false,4),(false,5),(false,6),(false,7),(false,8),(false,9),(false,10)] [0,1,2,3] (by kernel_rfl) (fun _ _ d _ _ h=>by cases d<;>exact h) (by kernel_rfl) (BH (Am.later (Zi _ _).drew)) ?_;refine Bf _ _ (by kernel_rfl) ?_;simp only[zQ,zW,ZY,ZO,ZN]
  repeat (first|go_big_quiet_step (fail)|quiet_step (fail))
  refine Ye ?_;clear z0;change DR _ _ _ _ _ _ _;obtain⟨V,hV⟩:∃V,V=X.drew:=⟨_,rfl⟩;have gF:Zm X.heap.size X V:=by rw[hV];exact(Zi _ _).drew
  have vP:LW b lv w dx V:=by rw[hV];exact Nt.drew
  rw[←hV];clear hV;have bz:Zm V.heap.size V (V.alloc (.cells #[.int .i64 1,.int .i64 2,.int .i64 (-1),.int .i64 (-4),.int .i64 4] 3)):=bA (Zi _ _);have NF:=gF.trans (bz.mono gF.size);refine Jv (v:=.slice (some ⟨V.heap.size,0,none⟩) 5 5) (w':=V.alloc (.cells #[.int .i64 1,.int .i64 2,.int .i64 (-1),.int .i64 (-4),.int .i64 4] 3)) rfl rfl (by go_simp) (.inr (BH (Am.later NF))) ?_;refine Ee (f:=98) (args:= #[.pointer (some ⟨b,0,none⟩),.slice (some ⟨V.heap.size,0,none⟩) 5 5]) rfl rfl (by go_simp) ((H98.out V _ [1,2,-1,-4,4] vP (by omega) (by decide) (by decide)).mono ?_);rintro e Y ⟨r9,d10,rfl,hr9,jy,vQ,auK⟩;obtain⟨y3,hy3,hyf,hyg,hyh⟩:∃y,y=nth [1,2,-1,-4,4] r9∧(y≠0∧-4≤y∧y≤4):=⟨_,rfl,age hr9⟩;rw[←hy3];clear hy3;have hTY:Am K X Y:=(Am.later NF).trans (jy.Du pW);refine⟨_,rfl,.inr (BH hTY),?_⟩;refine E7 (v:=.agg #[.int .i64 o2,.int .i64 y3]) rfl rfl (by go_simp) (.inr (BH hTY)) ?_;have dS:Am K X (Y.alloc (.cells #[.int .i64 o2,.int .i64 y3] 64)):=hTY.pV (bA (Zi _ _));refine Jv (v:=.slice (some ⟨Y.heap.size,0,none⟩) 1 1) (w':=Y.alloc (.cells #[.int .i64 o2,.int .i64 y3] 64)) rfl rfl (by go_simp) (.inr (BH dS)) ?_;have hRY:=jy.at_ ((NF.block _ (Za.1 hR).1).trans hR) (by omega);have te:=Bm hRY (.cells #[.int .i64 o2,.int .i64 y3] 64);obtain⟨i0,hi,Fg,El,EN⟩:=YC VC;have amY:=CM Tryz.underlying60;have hXY:=hTY.size;have hwX:=Nt.Cd.size;refine PO rfl rfl ?_;refine Zav _ _ _ 60 rfl (w.heap.size+1) 64 i0 (.agg #[.int .i64 0,.int .i64 0]) 2 16 amY (D3 hi) Fg El EN rfl (by decide) _ 1 [.int .i64 gi,.int .i64 y1] rfl (aV te hw5) ⟨Y.heap.size,0,none⟩ 1 1 [.int .i64 o2,.int .i64 y3] rfl rfl (K9 _ _ _) (by intro u hu;simp at hu;rcases hu with rfl|rfl<;>rfl) (by unfold maxLen;omega) (by omega) (by simp;omega) ?_;intro v' Y2 AY AG Fi;have f_:∀k,(Zy (some ⟨W5.heap.size,0,none⟩) 1 1).ownBlock=some k→k=W5.heap.size:=fun k hk=>by cases hk;rfl
  have Fa:Am K X Y2:=dS.trans (Am.grown AG fun k hk=>by rw[f_ k hk];exact fF _ (by omega) (by omega));refine⟨.inr (BH Fa),?_⟩;obtain⟨g',GI,rfl⟩:=ownsRow_succ AY;have VV:=(Fa.block qb vO gp).trans Hq;have f2:=cf (i:=2) VV;have e2:=ch (i:=2) VV (v:=.slice (some ⟨W5.heap.size,0,none⟩) 1 1) rfl;refine E7 (v:=.pointer (some ⟨qb,2,none⟩)) rfl rfl (by go_simp) (.inr (BH Fa)) ?_;refine Ky (w':=Y2.setCell ⟨qb,2,none⟩ (.slice (some ⟨g',0,none⟩) 2 GI)) rfl rfl (by go_simp) (.inl rfl) ?_;obtain⟨X,hXX⟩:∃X,X=Y2.setCell ⟨qb,2,none⟩ (.slice (some ⟨g',0,none⟩) 2 GI):=⟨_,rfl⟩;have Hq:X.heap[qb]?=some (.cells #[.int .i64 (-2+(r0:Int)),.int .i64 (-2+(r0:Int)+(r2:Int)),.slice (some ⟨g',0,none⟩) 2 GI,.slice none 0 0,.int .i64 y2] 62 (0,0)):=by rw[hXX];exact A5 VV _
  have JZ:X.heap[w.heap.size]?=some (.cells #[.int .i64 0,.int .i64 0,.slice none 0 0,.slice none 0 0,.int .i64 0] 62 (0,0)):=by rw[hXX];exact(AW (by omega) _).trans ((Fa.block _ (Za.1 JZ).1 oJ).trans JZ)
  have aaC:LW b lv w d10 X:=by
   have h1:=(vQ.alloc (.cells #[.int .i64 o2,.int .i64 y3] 64)).Cd.grown AG (fun k hk=>by rw[f_ k hk];omega);rw[hXX];refine⟨h1.DS (by omega),(vQ.alloc (.cells #[.int .i64 o2,.int .i64 y3] 64)).FQ.of ?_⟩;exact(AW (by omega) _).trans (AG.block b (vQ.alloc _).FQ.lt (fun e=>by have:=f_ b e.symm;omega))
  have Wt:Li X (w.heap.size+1) (.slice (some ⟨g',0,none⟩) 2 GI) [((gi:Int),y1),((o2:Int),y3)] 64:=by
   rw[hXX];exact SB AY VV (by decide)
  rw[←hXX];clear Nt hXX AY AG Fi f_ Fa dS hTY hRY te NF bz gF vP jy vQ VV f2 e2;obtain⟨dx,hdx⟩:∃dx,dx=d10:=⟨_,rfl⟩;rw[←hdx]at aaC;have Nt:=aaC;clear aaC;unfold DR
  go_simp
  go_wp2
  )
 all_goals
  have HB:∃(v2:Zc) (pl:List (Int×Int)),X.heap[qb]?=some (.cells #[.int .i64 (-2+(r0:Int)),.int .i64 (-2+(r0:Int)+(r2:Int)),v2,.slice none 0 0,.int .i64 y2] 62 (0,0))∧Li X (w.heap.size+1) v2 pl 64∧aay g pl:=by
   first
    |exact⟨_,_,Hq,Wt,aaA (by omega) ⟨kC,hya,hyb⟩ hoa hob ⟨hyf,hyg,hyh⟩⟩
    |exact⟨_,_,Hq,aV hR hw5,aaz (by omega) ⟨kC,hya,hyb⟩⟩
  try rw[←jW]
  try rw[←y8]
  try clear y8
  try clear jW
  clear Hq
  try clear Wt
  obtain⟨v2,pl,Hq,Wt,vR⟩:=HB;obtain⟨p2,q2,rfl,_⟩:=Jr Wt;obtain⟨i3,hi3,amZ,an0,an1⟩:=YC Lu;have an2:=CM ZaF;have OZ:dx≤d+12:=by omega
  have auO:w.heap.size+1≤qb:=by omega
  have HP:=Zh vR;clear vR;go_loopg [12] (n - (o+1)) (fun gg i wr=>∃(k:Nat) (ov:List Int) (v3:Zc) (dk:Nat),(o+1≤k∧k≤n)∧gg=n - k∧i=.int .i64 k∧LW b lv w dk wr∧dk+(o+1)≤dx+k∧wr.heap[w.heap.size]?=some (.cells #[.int .i64 0,.int .i64 0,.slice none 0 0,.slice none 0 0,.int .i64 0] 62 (0,0))∧wr.heap[qb]?=some (.cells #[.int .i64 (-2+(r0:Int)),.int .i64 (-2+(r0:Int)+(r2:Int)),.slice p2 pl.length q2,v3,.int .i64 y2] 62 (0,0))∧Li wr (w.heap.size+1) (.slice p2 pl.length q2) pl 64∧Own wr (w.heap.size+1) v3 ov∧ov.length≤k∧(∀x∈ov,(o:Int)<x∧x<k)∧ov.Pairwise (· < ·))
  case atStart=>exact⟨o+1,[],.slice none 0 0,dx,⟨Zj _,Kh⟩,rfl,by go_num,Nt,Zj _,JZ,Hq,Wt,Yz _ _ _ _,Zt _,(fun x hx=>by cases hx),List.Pairwise.nil⟩
  case round=>
   obtain⟨k,ov,v3,dk,⟨hk1,hk2⟩,rfl,rfl,hLk,ki,jX,FX,uS,I4,auP,agk,hpw⟩:=hrel;obtain⟨p3,q3,rfl,_⟩:=I4.si.val;have tf:=Zh (zb agk hpw);clear agk hpw;by_cases Az:k<n
   ·have Tb:(k:Int)<(n:Int):=by omega
    have hzk:=hLk.Cd.size;go_wp2_with (first|(go_at_call 99;refine(H99.out _ _ _ hLk (by omega) (by omega)).mono ?_;rintro e Y ⟨rb,dk2,rfl,hUy,hLy,hdy⟩;have hry:=hUy.at_ jX (by omega);have xA:=hUy.at_ FX (by omega);have hpy:=uS.Cd hUy (by omega);have hoy:=I4.Cd hUy (by omega);have c3:=ch (i:=3) xA (v:=.slice p3 ov.length q3) rfl;have hzy:=hLy.Cd.size)|(at_builtin;refine ZaV _ rfl _ _ 22 rfl (w.heap.size+1) 3 i3 (.int .i64 0) 1 8 an2 (D3 hi3) amZ an0 an1 rfl (by decide) _ ov.length (ov.map (ZT .i64)) rfl (Zac hoy _) ⟨Y.heap.size,0,none⟩ 1 1 [.int .i64 k] rfl rfl (Ex _ _ _) (by simp[ZaL]) (by unfold maxLen;omega) (by omega) (by have:=(Za.1 hry).1;simp;omega) ?_;intro v' Y2 AY AG Fi;obtain⟨g3,jV,rfl⟩:=ownsRow_succ AY;(have FD:∀x,(Zy p3 ov.length q3).ownBlock=some x→w.heap.size+1≤x∧∃cs,Y.heap[x]?=some (.cells cs 3 (0,0)):=Ns hoy);(have Fa:Am (fun x=>(Zy p3 ov.length q3).ownBlock=some x) Y Y2:=((Am.later (bA (Zi _ _))).mono fun _ x=>x).trans (Am.grown AG fun x hx=>hx));(have aW:∀x cs,Y.heap[x]?=some (Obj.cells cs 62 (0,0))→¬(Zy p3 ov.length q3).ownBlock=some x:=fun x cs hx e=>by(obtain⟨_,cs',h2⟩:=FD x e);rw[hx]at h2;cases h2);have ET:=(Fa.block _ (Za.1 xA).1 (aW _ _ xA)).trans xA;have PV:=(Fa.block _ (Za.1 hry).1 (aW _ _ hry)).trans hry;have e3:=ch (i:=3) ET (v:=.slice p3 ov.length q3) rfl;have f3:=cf (i:=3) ET))
    ·have VE:w.heap.size≠qb:=by omega
     have hgb:∀x,(Zy p3 ov.length q3).ownBlock=some x→w.heap.size≤x:=fun x hx=>by have:=(FD x hx).1;omega
     have pX:LW b lv w dk2 Y2:=⟨(hLy.alloc (.cells #[.int .i64 k] 3)).Cd.grown AG hgb,(hLy.alloc (.cells #[.int .i64 k] 3)).FQ.of (AG.block b (hLy.alloc _).FQ.lt (fun e=>by have:=(FD b e.symm).1;omega))⟩;have UY:=ES hpy Fa (fun x cs hx e=>by
      obtain⟨_,cs',h2⟩:=FD x e;rw[hx]at h2;cases h2)
     have HQ:=Zh (zb (pX.DS (i:=3) (v:=.slice (some ⟨g3,0,none⟩) (ov.length+1) jV) GN (show w.heap.size≤qb by omega)) (zb ((AW (i:=3) VE (.slice (some ⟨g3,0,none⟩) (ov.length+1) jV)).trans PV) (zb (A5 (i:=3) ET (.slice (some ⟨g3,0,none⟩) (ov.length+1) jV)) (zb (SB (i:=3) (u:=.slice (some ⟨g3,0,none⟩) (ov.length+1) jV) UY ET (by decide)) (SB (i:=3) (u:=.slice (some ⟨g3,0,none⟩) (ov.length+1) jV) AY ET (by decide))))));clear pX UY AY AG Fi Fa aW ET PV e3 f3 FD hgb;go_roundg (n - (k+1))
     case rel=>
      obtain⟨g1,g2,g4,g5,g6⟩:=HQ.out;refine⟨k+1,ov++ [(k:Int)],_,dk2,⟨by omega,by omega⟩,rfl,by go_num,g1,by omega,g2,g4,g5,?_,by simp;omega,fun x hx=>?_,?_⟩
      ·unfold Own
       rw[ZV,List.map_append];exact g6
      ·rcases Zax.1 hx with hx|hx
       ·have:=tf.out.1 x hx;omega
       ·rw[YJ.1 hx];omega
      ·refine List.pairwise_append.2 ⟨tf.out.2,List.pairwise_singleton _ _,fun a ha c hc=>?_⟩
       rw[YJ.1 hc];exact(tf.out.1 a ha).2
     case measure=>omega
    ·go_roundg (n - (k+1))
     case rel=>exact⟨k+1,ov,_,dk2,⟨by omega,by omega⟩,rfl,by go_num,hLy,by omega,hry,xA,hpy,hoy,by omega,(fun x hx=>⟨(tf.out.1 x hx).1,by have:=(tf.out.1 x hx).2;omega⟩),tf.out.2⟩
     case measure=>omega
   ·have hkn:k=n:=by omega
    subst hkn;have s0:=ch (i:=0) FX (v:=.int .i64 (-2+(r0:Int))) rfl;have s1:=ch (i:=1) FX (v:=.int .i64 (-2+(r0:Int)+(r2:Int))) rfl;have s2:=ch (i:=2) FX (v:=.slice p2 pl.length q2) rfl;have s3:=ch (i:=3) FX (v:=.slice p3 ov.length q3) rfl;have s4:=ch (i:=4) FX (v:=.int .i64 y2) rfl;have f0:=cf (i:=0) jX;have f1:=cf (i:=1) jX;have f2:=cf (i:=2) jX;have f3:=cf (i:=3) jX;have f4:=cf (i:=4) jX;have x0:=ch (i:=0) jX (v:=.int .i64 0) rfl;have x1:=ch (i:=1) jX (v:=.int .i64 0) rfl;have x2:=ch (i:=2) jX (v:=.slice none 0 0) rfl;have x3:=ch (i:=3) jX (v:=.slice none 0 0) rfl;have x4:=ch (i:=4) jX (v:=.int .i64 0) rfl;have xl:w.heap.size<wr.heap.size:=(Za.1 jX).1;have hqk:qb<wr.heap.size:=(Za.1 FX).1;have HK:=Zh (zb uS I4);clear uS I4 FX jX;go_wp2;refine ZX (v:=.agg #[.int .i64 (-2+(r0:Int)),.int .i64 (-2+(r0:Int)+(r2:Int)),.slice p2 pl.length q2,.slice p3 ov.length q3,.int .i64 y2]) (by rw[A3 rfl];go_simp) rfl ?_;have key:∀Z,LW b lv w dk Z→Am (fun x=>x=w.heap.size) wr Z→oN w b lv d g k o (.returned (.agg #[.int .i64 (-2+(r0:Int)),.int .i64 (-2+(r0:Int)+(r2:Int)),.slice p2 pl.length q2,.slice p3 ov.length q3,.int .i64 y2])) Z:=fun Z hLZ pY=>by
     have Fi:∀x,TT (w.heap.size+1) wr x→¬x=w.heap.size:=fun x hx e=>by have:=hx.1;omega
     refine⟨⟨-2+(r0:Int),-2+(r0:Int)+(r2:Int),pl,ov,y2⟩,_,_,dk,rfl,hLZ,by omega,VT (kI (HK.out.1.tt (.inr (.inl rfl))) pY Fi) (by omega),Nr (QE HK.out.2.tt pY Fi) (by omega),?_,fun x hx=>(tf.out.1 x hx).1⟩;obtain⟨hf,hpp,htw⟩:=HP.out;refine⟨by simp only;omega,hf,hpp,htw,fun x hx=>?_,tf.out.2,⟨hyc,hyd⟩⟩;have:=tf.out.1 x hx;omega
    refine key _ ?_ ?_
    ·exact((((hLk.DS GN (Zj _)).DS GN (Zj _)).DS GN (Zj _)).DS GN (Zj _)).DS GN (Zj _)
    ·exact(Am.refl (fun x=>x=w.heap.size) wr).DG.DG.DG.DG.DG
end Go.Proofs.Fit
