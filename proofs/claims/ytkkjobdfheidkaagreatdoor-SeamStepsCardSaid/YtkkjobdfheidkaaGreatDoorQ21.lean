/- Part of a proof. -/
import Derived.Test.YtkkjobdfheidkaaGreatDoorQ20
set_option maxRecDepth 100000
set_option maxHeartbeats 6400000
set_option linter.unusedVariables false
set_option linter.unusedSimpArgs false
open And renaming intro→zb
open Array renaming getElem?_eq_some_iff→Za,replicate→Yd,getElem?_eq_getElem→ZB,getElem?_setIfInBounds_self_of_lt→Z9,getElem?_setIfInBounds_ne→Zk
open Bool renaming and_eq_true→ZD
open Go renaming World→Zb,Program→Zp,FuncId→YT,Value→Zc,info_parts→YC,wpQuiet_nil→Ye,wp_append_own→Zav,bodyPost_ret→ZX
open Go.Lib renaming hid→Zh
open Go.Proofs.Tryz renaming underlying27→Yn
open Go.Region renaming Mode→YD,noSelect→Yv,ready→zh
open Go.RowKit renaming Below→Zm
open Go.RowKit.Below renaming refl→Zi
open Go.Value renaming slice→Zy,oneCell'→ZaL,int→ZT
open Go.World renaming size_alloc→ZG,block_lt_of_cell?→ZH,ownsRow_nil→Yz
open List renaming getElem?_eq_getElem→Z7,mem_cons_of_mem→zr,mem_cons_self→zF,mem_of_getElem?→Yh,getElem?_map→ZaT,filterMap_cons→zQ,filterMap_nil→zW,getElem?_toArray→ZY,getElem?_cons_succ→ZO,getElem?_cons_zero→ZN,getElem?_append_left→zD,getElem?_eq_some_iff→Zo,length_append→ZV,length_cons→zK,length_nil→zY,drop_eq_getElem_cons→Z4
open Nat renaming lt_of_lt_of_le→Zl,zero_le→Zt,le_trans→Zx,le_refl→Zj,lt_or_ge→Zae,zero_add→Ym,reduceAdd→Zak
open Option.some renaming inj→Z2
open True renaming intro→Yo
namespace Go.Proofs.Fit
open Go Go.RowKit
theorem agM (w:Zb)(a b c:Obj):(((w.alloc a).alloc b).alloc c).heap[w.heap.size+1+1]?=some c:=by
 have:=Bv ((w.alloc a).alloc b) c;rwa[ZG,ZG]at this
section
variable {P:Zp}{ops:Array Oper}{Q:Exit→Act→Zb→Prop}{T:Nat→Zb→Prop}
theorem oW {i:Nat}{r:List (Bool×Nat)}{o:Oper}{f:YT}{args:Array Zc}{a:Act}{w:Zb}(ho:ops[i]?=some o)(hg:o.guard=none)(hr:(execOp a.eval o).run P w=.ok (.enter f args) w)
  (hc:Calls P f args w fun e w'=>(∃v,e=.returned v∧T i w'∧DR P ops Q T r (a.put o.dst v) w')∨∃x,e=.panicked x∧Q (.panic x) a w'):DR P ops Q T ((false,i)::r) a w:=by
 refine PO ho hg ?_;unfold Oper.wp;rw[hr,Oper.upon_enter];refine hc.mono fun e w' h=>?_;rcases h with⟨v,rfl,h⟩|⟨x,rfl,h⟩
 ·exact h
 ·exact h
end
theorem aaP:(Tryz.prog.info? 27).map (fun i=>(i.zero,i.size,i.bytes))=some (some (.slice none 0 0),1,24):=by kernel_rfl
theorem oX (n:Nat)(hn:n≤1000)(w:Zb):(Instr.makeSlice 27 (.int .i64 n) (.int .i64 n)).run Lp w=.ok (.slice (some ⟨w.heap.size,0,none⟩) n n) (w.alloc (.cells (List.replicate n (Zy none 0 0)).toArray 22)):=by
 obtain⟨i0,hi,Fg,El,EN⟩:=YC Jf;have h:=run_make (P:=Lp) w 27 22 i0 (.slice none 0 0) (CM Yn) (D3 hi) Fg .i64 .i64 n n (by omega) (Int.le_refl _) (by rw[EN];omega) (by omega);rw[h,El];simp only[Int.toNat_natCast]
 congr 3
 apply Array.ext
 ·simp[madeCells]
 ·intro i h1 h2
  simp[madeCells,Value.cells,Nat.mod_one]
def Rsp (S:Nat→Prop)(w:Zb)(cs:List Zc)(x:List (Int×Int)):Prop:=∃u,cs=[u]∧SP S w u x
abbrev SSP (S:Nat→Prop):=Sl S (Rsp S) 1
abbrev j1 (l:List (List (Int×Int)))(i:Nat):List (Int×Int):=l.getD i []
theorem Nv {l:List (List (Int×Int))}{i:Nat}(h:i<l.length):l[i]?=some (j1 l i):=by simp[j1,h]
theorem SSP.at_ {S:Nat→Prop}{w:Zb}{a:Option Addr}{c:Nat}{l:List (List (Int×Int))}(h:SSP S w (.slice a l.length c) l){i:Nat}(hi:i<l.length):∃b o u,a=some ⟨b,o,none⟩∧S b∧w.cell? ⟨b,o+i,none⟩=some u∧SP S w u (j1 l i):=by
 obtain⟨a',c',h1,_,_,h4⟩:=h;cases h1;obtain⟨b,o,cs,g1,g2,g3,g4,u,rfl,hu⟩:=h4 i _ (Nv hi);exact⟨b,o,u,g1,g2,by simpa using g4 0 _ rfl,hu⟩
def I2 (c:Aw)(s:List (Int×Int)):List (List Int):=(KI c).filter fun l=>DC c l s
def oY (c:Aw)(ss:List (List (Int×Int))):Option (List (List Int)×Int):=Gi (Ay c.Aa) (ss.map (I2 c)) c
def oZ (c:Aw)(ss:List (List (Int×Int))):List (List Int):=match oY c ss with|none=> []|some p=>p.1
def o8 (c:Aw)(ss:List (List (Int×Int))):Int:=match oY c ss with|none=>0|some p=>p.2
def o9 (c:Aw)(ss:List (List (Int×Int))):Int:=match oY c ss with|none=>11|some _=>0
def tA (w:Zb)(c:Aw)(ss:List (List (Int×Int)))(e:Ending)(w':Zb):Prop:=Zm w.heap.size w w'∧((∃v,e=.returned (.tuple #[v,.int .i64 (o8 c ss),.int .i64 (o9 c ss)])∧SL (Cy w.heap.size w') w' v (oZ c ss))∨∃x,e=.panicked x∧PX x w')
def ZZ (Z:Nat→Prop)(n:Nat)(w:Zb)(b:Nat):Prop:=Z b∨ND 22 n w b
theorem slz {Z T:Nat→Prop}{n:Nat}{A B:Zb}{u:Zc}{f:List (List Int)}(h:SL (ZZ Z n A) A u f)(hT:Am T A B)(hx:∀b,ZZ Z n A b→¬T b):SL (ZZ Z n B) B u f:=by
 have hz:∀b,b<A.heap.size→ZZ Z n A b→ZZ Z n B b:=fun b hl hb=>by
  rcases hb with GL|⟨GL,cs,hc⟩
  ·exact .inl GL
  ·exact .inr ⟨⟨GL.1,Zl GL.2 hT.size⟩,cs,(hT.block b GL.2 (hx b (.inr ⟨GL,cs,hc⟩))).trans hc⟩
 have hk:∀ {R:Zb→List Zc→List Int→Prop} {k:Nat},True:=fun {_ _}=>trivial;clear hk;obtain⟨a,c,h1,h2,h3,h4⟩:=h;refine⟨a,c,h1,h2,h3,fun i x hi=>?_⟩;obtain⟨b,o,cs,g1,g2,g3,g4,u',e,hs⟩:=h4 i x hi;subst e;have hl:b<A.heap.size:=ZH A _ (g4 0 u' rfl);refine⟨b,o,[u'],g1,hz b hl g2,g3,fun j y hy=>(hT.same (S:=ZZ Z n A) hx).cell (p:=⟨b,o+i*1+j,none⟩) g2 (g4 j y hy),u',rfl,?_⟩;obtain⟨a',c',e1,e2,e3,e4⟩:=hs;refine⟨a',c',e1,e2,e3,fun i' x' Df=>?_⟩;obtain⟨b',o',cs',f1,f2,f3,f4,f5⟩:=e4 i' x' Df;have hcs:cs'.length=1:=f3;have JH:b'<A.heap.size:=ZH A _ (f4 0 _ (Z7 (by omega)));exact⟨b',o',cs',f1,hz b' JH f2,f3,fun j y hy=>(hT.same (S:=ZZ Z n A) hx).cell (p:=⟨b',o'+i'*1+j,none⟩) f2 (f4 j y hy),f5⟩
structure CS (Z:Nat→Prop)(w5:Zb)(q mb:Nat)(c:Aw)(ss:List (List (Int×Int)))(k:Nat)(v:Zc)(wx:Zb):Prop where
 Du:Am (fun x=>x=q∨w5.heap.size≤x) w5 wx
 box:wx.heap[q]?=some (.cells #[v,.map (some mb)] 134 (0,0))
 row:∃vals,wx.ownsRow w5.heap.size 27 1 v k vals∧∀(i:Nat) (f:List (List Int)),((ss.map (I2 c)).take k)[i]?=some f→∃u,vals[i]?=some u∧SL (ZZ Z w5.heap.size wx) wx u f
theorem bh (ab:Nat→Nat)(Q:List Int→Prop):∀(fs:List (List (List Int))) (d:Aw) (p:List (List Int)×Int),(∀f∈fs,∀l∈f,Q l)→Gi ab fs d=some p→∀l∈p.1,Q l
 | [],_,p,_,h=>by cases h;simp
 |f::r,d,p,hq,h=>by
  have key:∀(l:List (List Int)) (o:Option (List (List Int)×Int)),(∀x∈l,Q x)→(∀q,o=some q→∀x∈q.1,Q x)→∀q,l.foldl (Dx ab d (Gi ab r)) o=some q→∀x∈q.1,Q x:=by
   intro l
   induction l with
   |nil=>intro o _ ho q hq;exact ho q hq
   |cons x l ih=>
    intro o hl ho q P2;refine ih _ (fun y hy=>hl y (zr _ hy)) (fun q' P2=>?_) q P2;unfold Dx at P2;split at P2
    ·exact ho q' P2
    ·split at P2
     ·exact ho q' P2
     ·next p' j_=>
      split at P2
      ·cases P2
       intro y hy;rcases List.mem_cons.1 hy with rfl|hy
       ·exact hl _ (zF ..)
       ·exact bh ab Q r _ p' (fun f hf=>hq f (zr _ hf)) j_ y hy
      ·exact ho q' P2
  exact key f none (fun x hx=>hq f (zF ..) x hx) (fun q hq=>by cases hq) p h
structure CL (w6:Zb)(L:List (List Int))(bx:Array Zc)(k:Nat)(cur:Array Zc)(wx:Zb):Prop where
 below:Zm w6.heap.size w6 wx
 box:wx.heap[w6.heap.size]?=some (.cells bx 141 (0,0))
 out:wx.heap[w6.heap.size+1]?=some (.cells cur 22 (0,0))
 size:cur.size=L.length
 at_:∀i,i<k→∃u,cur[i]?=some u∧SI (ND 3 w6.heap.size wx) wx u (CF L i)
theorem c41 {S:Nat→Prop}{w:Zb}{v1 v2 v3 v4 v5 v6:Zc}{c:Aw}{ss:List (List (Int×Int))}(h:RC S w v1 v2 v3 v4 v5 c)(hs:SSP S w v6 ss)(hS:∀b,S b→b<w.heap.size)(K4:BR c=0)(h1:1≤ss.length∧ss.length≤3)(hss:∀s∈ss,Hl c.base.length s=0)(kB:∀i,i<c.Aa.length→(Aj c.Aa i).over.length≤1000):
  Calls Lp 41 #[.agg #[v1,v2,v3,v4,v5],v6] w (tA w c ss):=by
 obtain⟨a1,c1,rfl,l1,m1⟩:=h.base.val;obtain⟨a2,c2,rfl,l2,m2⟩:=h.Ag.val;obtain⟨a3,c3,rfl,l3,m3⟩:=h.hooks.val;obtain⟨a4,c4,rfl,l4,m4⟩:=h.Aa.val;obtain⟨a5,c5,rfl,l5,m5⟩:=h.now.val;obtain⟨a6,c6,rfl,l6,m6⟩:=hs.val;have I3:=DN;have hv:=Gg K4;have Bw:Zm w.heap.size w (w.alloc (.cells #[.slice a1 c.base.length c1,.slice a2 c.Ag.length c2,.slice a3 c.hooks.length c3,.slice a4 c.Aa.length c4,.slice a5 c.now.length c5] 26)):=bA (Zi _ _);have pN:=Zh (fun W hB=>nJ (w:=W) (h.later hB) (A8 hS hB) K4);have agP:=Zh (show∀W,Calls Lp 100 #[.int .i64 ss.length,.int .i64 3] W fun e w'=>e=.returned (.int .i64 0)∧w'=W from fun W=>by
  have:=rW (ss.length:Int) 3 W;rwa[Np (by omega)]at this)
 go_enter Lp.func41,n41;go_wp2_with (first|(go_at_call 88;refine(pN.out _ Bw).mono ?_;rintro e w1 ⟨rfl,Bh⟩;have BA:=Bw.trans (Bh.mono Bw.size))|(go_at_call 100;refine(agP.out _).mono ?_;rintro e w2 ⟨rfl,hw⟩;obtain rfl:=hw.symm));obtain⟨W2,QB⟩:∃W2,W2=w1.alloc (.cells (Ba (.slice a1 c.base.length c1) (.slice a2 c.Ag.length c2) (.slice a3 c.hooks.length c3) (.slice a4 c.Aa.length c4) (.slice a5 c.now.length c5) (Ay c.Aa)) 112):=⟨_,rfl⟩;have LB:Zm w1.heap.size w1 W2:=by rw[QB];exact bA (Zi _ _)
 have Ta:W2.heap[w1.heap.size]?=some (.cells (Ba (.slice a1 c.base.length c1) (.slice a2 c.Ag.length c2) (.slice a3 c.hooks.length c3) (.slice a4 c.Aa.length c4) (.slice a5 c.now.length c5) (Ay c.Aa)) 112 (0,0)):=by rw[QB];exact Bv _ _
 have Dz:=BA.trans (LB.mono BA.size);change Code.wp _ _ _ _ (w1.alloc (.cells (Ba (.slice a1 c.base.length c1) (.slice a2 c.Ag.length c2) (.slice a3 c.hooks.length c3) (.slice a4 c.Aa.length c4) (.slice a5 c.now.length c5) (Ay c.Aa)) 112));rw[←QB];clear QB LB Bh pN agP;obtain⟨ab,Eh⟩:∃ab,ab=Ay c.Aa:=⟨_,rfl⟩;rw[←Eh]at Ta;have vy:=Zh Eh;clear Eh;have ju:=Zh (fun W (hB:Zm w.heap.size w W) u s (hu:SP S w u s) (hz:Hl c.base.length s=0)=>show Calls Lp 101 #[.agg #[.slice a1 c.base.length c1,.slice a2 c.Ag.length c2,.slice a3 c.hooks.length c3,.slice a4 c.Aa.length c4,.slice a5 c.now.length c5,.int .u8 (ab 0),.int .u8 (ab 1),.int .u8 (ab 2)],u] W fun e w'=>e=.returned (.int .i64 0)∧Zm W.heap.size W w' from by
  have:=afr (w:=W) (h.later hB) (hu.later hB) (A8 hS hB) (ab 0) (ab 1) (ab 2);rwa[hz]at this)
 go_loopg [37] ss.length (fun g i wr=>∃k:Nat,k≤ss.length∧g=ss.length - k∧i=.int .i64 k∧Zm W2.heap.size W2 wr)
 case atStart=>exact⟨0,Zt _,rfl,rfl,Zi _ _⟩
 case round=>
  obtain⟨k,hk,rfl,rfl,KE⟩:=hrel;have Ck:=Dz.trans (KE.mono Dz.size);have fZ:=(KE.block _ (Za.1 Ta).1).trans Ta;have k0:=ch (i:=0) fZ (v:=.slice a1 c.base.length c1) rfl;have k1:=ch (i:=1) fZ (v:=.slice a2 c.Ag.length c2) rfl;have k2:=ch (i:=2) fZ (v:=.slice a3 c.hooks.length c3) rfl;have k3:=ch (i:=3) fZ (v:=.slice a4 c.Aa.length c4) rfl;have k4:=ch (i:=4) fZ (v:=.slice a5 c.now.length c5) rfl;have k5:=ch (i:=5) fZ (v:=.int .u8 (ab 0)) rfl;have k6:=ch (i:=6) fZ (v:=.int .u8 (ab 1)) rfl;have k7:=ch (i:=7) fZ (v:=.int .u8 (ab 2)) rfl;by_cases Az:k<ss.length
  ·obtain⟨b,o,u,rfl,hb,hc,hu⟩:=hs.at_ Az
   rw[←Ck.cell (p:=⟨b,o+k,none⟩) (hS b hb)]at hc;have hz:=hss _ (Yh (Nv Az));obtain⟨s0,FB⟩:∃s0,s0=j1 ss k:=⟨_,rfl⟩;rw[←FB]at hu hz;clear FB;obtain⟨a7,c7,rfl,l7,m7⟩:=hu.val;have HZ:=Zh hz;clear hz;go_wp2_with (go_at_call 101;refine(ju.out _ Ck _ _ hu HZ.out).mono ?_;rintro e w3 ⟨rfl,DQ⟩;have Nb:=KE.trans (DQ.mono KE.size));go_roundg (ss.length - (k+1))
   case rel=>exact⟨k+1,by omega,rfl,by go_num,Nb⟩
   case measure=>omega
  ·have hgz:w1.heap.size<wr.heap.size:=(Za.1 fZ).1
   have Jm:=hv.few;have B3:∀i,i<c.Aa.length→-2≤(Aj c.Aa i).low∧(Aj c.Aa i).high≤2:=fun i hi=>by have:=hv.step i hi;omega
   have hmm:= @run_makeMap Lp;have US:(KI c).length≤125:=Zx (Sk c.Aa B3) (Nat.pow_le_pow_right (by decide) Jm.2);go_wp2_with (first|(go_at_call 103;refine(amt (Ba (.slice a1 c.base.length c1) (.slice a2 c.Ag.length c2) (.slice a3 c.hooks.length c3) (.slice a4 c.Aa.length c4) (.slice a5 c.now.length c5) ab) rfl (by simp[Ba,ZaL]) _).mono ?_;rintro e w4 ⟨rfl,vM⟩;(have VK:Zm wr.heap.size wr w4:=by rw[vM];exact bA (bA (bA (Zi _ _))));(have hMb:w4.heap[wr.heap.size]?=some (.map #[] 0):=by rw[vM];exact Bm (Bm (Bv _ _) _) _);(have hFb:w4.heap[wr.heap.size+1]?=some (.cells #[.slice none 0 0,.map (some wr.heap.size)] 134 (0,0)):=by rw[vM];exact Bm (JL _ _ _) _);(have hGb:w4.heap[wr.heap.size+1+1]?=some (.cells (Ba (.slice a1 c.base.length c1) (.slice a2 c.Ag.length c2) (.slice a3 c.hooks.length c3) (.slice a4 c.Aa.length c4) (.slice a5 c.now.length c5) ab) 112 (0,0)):=by rw[vM];exact agM _ _ _ _);clear vM)|(go_at_call 102;refine(amv hGb (h.later (Ck.trans (VK.mono Ck.size))) (A8 hS (Ck.trans (VK.mono Ck.size))) Jm.2 B3).mono ?_;rintro e w5 ⟨va,rfl,j4,Fv⟩;obtain⟨aa,cc,rfl,_⟩:=Sl.val Fv));obtain⟨q,OE⟩:∃q,q=wr.heap.size+1:=⟨_,rfl⟩;have hz4:wr.heap.size+1+1<w4.heap.size:=(Za.1 hGb).1;have pT:=j4.size;have Fg:=Ck.size;have hG5:=(j4.block _ (by omega)).trans ((VK.block _ hgz).trans fZ);have hM5:=(j4.block _ (by omega)).trans hMb;have Tf:=(j4.block _ (by omega)).trans hFb;have o_:=(Ck.trans (VK.mono Ck.size)).trans (j4.mono (Ck.trans (VK.mono Ck.size)).size);obtain⟨mb,agQ⟩:∃mb,mb=wr.heap.size:=⟨_,rfl⟩;rw[←OE]at Tf⊢;rw[←agQ]at Tf hM5 OE⊢;obtain⟨Z,tB⟩:∃Z:Nat→Prop,Z=fun b=>b<w5.heap.size∧b≠q∧b≠mb:=⟨_,rfl⟩;have pf:∀b,Z b→b<w5.heap.size:=fun b hb=>by rw[tB]at hb;exact hb.1
   have hZq:∀b,Z b→b≠q:=fun b hb=>by rw[tB]at hb;exact hb.2.1
   have hZm:∀b,Z b→b≠mb:=fun b hb=>by rw[tB]at hb;exact hb.2.2
   have hZS:∀b,S b→Z b:=fun b hb=>by rw[tB];have:=hS b hb;exact⟨by omega,by omega,by omega⟩
   have agR:SL Z w5 (.slice aa (KI c).length cc) (KI c):=Sl.imp Fv (fun b hb=>by rw[tB];have:=hb.1;have:=hb.2;exact⟨by omega,by omega,by omega⟩) (fun _ _ ⟨u,e,hs⟩=>⟨u,e,Sl.imp hs (fun b hb=>by rw[tB];have:=hb.1;have:=hb.2;exact⟨by omega,by omega,by omega⟩) fun _ _ x=>x⟩);have agS:RC Z w5 (.slice a1 c.base.length c1) (.slice a2 c.Ag.length c2) (.slice a3 c.hooks.length c3) (.slice a4 c.Aa.length c4) (.slice a5 c.now.length c5) c:=(h.later o_).imp hZS;have hs5:SSP Z w5 (.slice a6 ss.length c6) ss:=Sl.imp (Sl.Au (w':=w5) hs (fun b hb hl=>o_.block b hl) fun _ _ ⟨u,e,hp⟩=>⟨u,e,hp.later o_⟩) hZS fun _ _ ⟨u,e,hp⟩=>⟨u,e,Sl.imp hp hZS fun _ _ x=>x⟩;have QC:w1.heap.size<w5.heap.size:=by omega
   have hgq:w1.heap.size≠q:=by omega
   have hqw:q<w5.heap.size:=by omega
   have nY:mb≠q:=by omega
   have hm5:mb<w5.heap.size:=by omega
   have avz:w.heap.size≤q:=by omega
   have kJ:w.heap.size≤mb:=by omega
   have HC0:CS Z w5 q mb c ss 0 (.slice none 0 0) w5:=⟨Am.refl _ _,Tf,[],Yz _ _ _ _,fun i f hf=>by cases hf⟩;clear Fv j4 VK hMb hFb hGb fZ OE agQ Tf tB k0 k1 k2 k3 k4 k5 k6 k7;go_loopg [55] ss.length (fun g i wx=>∃(k:Nat) (v:Zc),k≤ss.length∧g=ss.length - k∧i=.int .i64 k∧CS Z w5 q mb c ss k v wx)
   case atStart=>exact⟨0,_,Zt _,rfl,rfl,HC0⟩
   case round=>
    obtain⟨k,v,hk,rfl,rfl,hC⟩:=hrel;have hT:=hC.Du;have hnK:∀x,x<w5.heap.size→x≠q→¬(x=q∨w5.heap.size≤x):=fun x h1 h2 h3=>by omega
    have hSZ:CC Z w5 wr:=hT.same fun x hx=>hnK x (pf x hx) (hZq x hx);have Se:=(hT.block _ QC (hnK _ QC hgq)).trans hG5;obtain⟨vals,AY,GF⟩:=hC.row;obtain⟨cz,p_,rfl,_⟩:=Jr AY;have hxz:=hT.size;have k0:=ch (i:=0) Se (v:=.slice a1 c.base.length c1) rfl;have k1:=ch (i:=1) Se (v:=.slice a2 c.Ag.length c2) rfl;have k2:=ch (i:=2) Se (v:=.slice a3 c.hooks.length c3) rfl;have k3:=ch (i:=3) Se (v:=.slice a4 c.Aa.length c4) rfl;have k4:=ch (i:=4) Se (v:=.slice a5 c.now.length c5) rfl;have k5:=ch (i:=5) Se (v:=.int .u8 (ab 0)) rfl;have k6:=ch (i:=6) Se (v:=.int .u8 (ab 1)) rfl;have k7:=ch (i:=7) Se (v:=.int .u8 (ab 2)) rfl;by_cases Az:k<ss.length
    ·obtain⟨b,o,u,rfl,hb,hc,hu⟩:=hs5.at_ Az
     have NT:=hSZ.cell (p:=⟨b,o+k,none⟩) hb hc;have j8:=SP.Au hu hSZ;have hz:=hss _ (Yh (Nv Az));have HTK:=Zh (show(ss.map (I2 c)).take (k+1)=(ss.map (I2 c)).take k++ [I2 c (j1 ss k)] by rw[List.take_add_one,ZaT,Nv Az];rfl);obtain⟨s0,FB⟩:∃s0,s0=j1 ss k:=⟨_,rfl⟩;rw[←FB]at j8 hz HTK;clear FB hu hc;obtain⟨a7,c7,rfl,l7,m7⟩:=j8.val;obtain⟨yP,fR⟩:=Us hz;have HSN:=Zh yP;have HSB:=Zh fR;clear hz yP fR;obtain⟨K,K8⟩:∃K:Nat→Prop,K=fun x=>w5.heap.size≤x:=⟨_,rfl⟩;have fF:∀x,w5.heap.size≤x→K x:=fun x hx=>by rw[K8];exact hx
     have pj:∀x,x<w5.heap.size→¬K x:=fun x hx=>by rw[K8];intro y;omega
     clear K8;have z0:=fun p:Tw K wr=>p.cell (ch (i:=0) hC.box (v:=.slice cz k p_) rfl) (pj _ hqw);have g0:=fun p:Tw K wr=>p.cell k0 (pj _ QC);have g1:=fun p:Tw K wr=>p.cell k1 (pj _ QC);have g2:=fun p:Tw K wr=>p.cell k2 (pj _ QC);have g3:=fun p:Tw K wr=>p.cell k3 (pj _ QC);have g4:=fun p:Tw K wr=>p.cell k4 (pj _ QC);have g5:=fun p:Tw K wr=>p.cell k5 (pj _ QC);have g6:=fun p:Tw K wr=>p.cell k6 (pj _ QC);have g7:=fun p:Tw K wr=>p.cell k7 (pj _ QC);have Tb:(k:Int)<(ss.length:Int):=by omega
     clear k0 k1 k2 k3 k4 k5 k6 k7;go_wp2;clear NT;refine C5 (S:=fun W=>∃p:Tw K wr,W=p.v) [9] [(false,5),(false,6),(false,7),(false,8),(false,9)] [0,1,2,3,4] (by kernel_rfl) (fun _ _ d _ _ h=>by cases d<;>exact h) (by kernel_rfl) (BH (Am.later (Zi _ _).drew)) ?_;refine Bf _ _ (by kernel_rfl) ?_;simp only[zQ,zW,ZY,ZO,ZN]
     repeat (first|go_big_quiet_step (fail)|quiet_step (fail))
     refine Ye ?_;clear z0 g0 g1 g2 g3 g4 g5 g6 g7;change DR _ _ _ _ _ _ _;have hBd:Zm wr.heap.size wr wr.drew:=(Zi _ _).drew;have hSd:CC Z wr wr.drew:=fun x _ hx=>hBd.block x hx;have tB:∀x,Z x→x<wr.drew.heap.size:=fun x hx=>Zl (pf x hx) hxz;refine oW (f:=104) (args:= #[.agg #[.slice a1 c.base.length c1,.slice a2 c.Ag.length c2,.slice a3 c.hooks.length c3,.slice a4 c.Aa.length c4,.slice a5 c.now.length c5,.int .u8 (ab 0),.int .u8 (ab 1),.int .u8 (ab 2)],.slice aa (KI c).length cc,.slice a7 s0.length c7]) rfl rfl (by go_simp) ((afY (S:=Z) ((agS.Au hSZ).Au hSd) hv (SL.Au (SL.Au agR hSZ) hSd) (SP.Au j8 hSd) (fun i hi=>?_) (by have:=HSN.out;omega) HSB.out (by omega) tB (ab 0) (ab 1) (ab 2)).mono ?_)
     ·have hm:(CF (KI c) i).length=c.Aa.length∧∀j,j<(CF (KI c) i).length→(Aj c.Aa j).low≤nth (CF (KI c) i) j∧nth (CF (KI c) i) j≤(Aj c.Aa j).high:=Sj c.Aa _ (Yh (DD hi))
      refine⟨by rw[hm.1];exact Zj _,fun j hj=>?_⟩;have h1:=hm.2 j hj;have h2:=B3 j (by rw[←hm.1];exact hj);omega
     rintro e W1 ⟨aR,⟨agU,rfl,Pt⟩|⟨x',rfl,Vq⟩⟩
     ·have tC:=hBd.trans (aR.mono (Zj _))
      have NC:Am K wr W1:=Am.later tC;refine .inl ⟨agU,rfl,.inr (BH NC),?_⟩;have aaS:SL (ZZ Z w5.heap.size W1) W1 agU (I2 c s0):=Sl.imp Pt (fun b hb=>by
       rcases hb with hb|hb
       ·exact .inl hb
       ·exact .inr ⟨⟨Zx hxz hb.1.1,hb.1.2⟩,hb.2⟩) (fun _ _ ⟨u,e,hs⟩=>⟨u,e,Sl.imp hs (fun b hb=>by
       rcases hb with hb|hb
       ·exact .inl hb
       ·exact .inr ⟨⟨Zx hxz hb.1.1,hb.1.2⟩,hb.2⟩) fun _ _ x=>x⟩)
      obtain⟨fa,fc,rfl,_⟩:=Sl.val aaS;obtain⟨W1a,tD⟩:∃W1a,W1a=W1.alloc (.cells #[.slice fa (I2 c s0).length fc] 27):=⟨_,rfl⟩;have bz:Zm W1.heap.size W1 W1a:=by rw[tD];exact bA (Zi _ _)
      have KE:=tC.trans (bz.mono tC.size);have dS:Am K wr W1a:=Am.later KE;refine Jv (v:=.slice (some ⟨W1.heap.size,0,none⟩) 1 1) (w':=W1a) rfl rfl (by rw[tD];go_simp) (.inr (BH dS)) ?_;have wh:=H0 AY KE;obtain⟨i0,hi,dI,sS,aas⟩:=YC aaP;have anL:=CM Tryz.underlying38;refine PO rfl rfl ?_;refine Zav _ _ _ 38 rfl w5.heap.size 27 i0 (.slice none 0 0) 1 24 anL (D3 hi) dI sS aas rfl (by decide) _ k vals rfl wh ⟨W1.heap.size,0,none⟩ 1 1 [.slice fa (I2 c s0).length fc] rfl rfl (by rw[tD];exact Ex _ _ _) (by simp[ZaL]) (by unfold maxLen;omega) (by omega) (by have:=KE.size;omega) ?_;intro v' wi Cx AG Fi;have FD:∀g,(Zy cz k p_).ownBlock=some g→w5.heap.size≤g∧∃cs,wr.heap[g]?=some (.cells cs 27 (0,0)):=fun g hg=>by
       rcases AY.2 with⟨e,_⟩|⟨g',cap,cur,e,h3,h4,_⟩
       ·cases e;cases hg
       ·cases e;cases hg;exact⟨h3,cur,h4⟩
      have I1:Am (fun x=>(Zy cz k p_).ownBlock=some x) W1a wi:=Am.grown AG fun g hg=>hg;have Fa:Am K wr wi:=dS.trans (Am.grown AG fun g hg=>fF g (FD g hg).1);refine⟨.inr (BH Fa),?_⟩;obtain⟨g',GI,rfl⟩:=ownsRow_succ Cx;have jv:q<wr.heap.size:=by omega
      have Ng:=(Fa.block q jv (pj _ hqw)).trans hC.box;have f0:=cf (i:=0) Ng;have e0:=ch (i:=0) Ng (v:=.slice cz k p_) rfl;refine E7 (v:=.pointer (some ⟨q,0,none⟩)) rfl rfl (by go_simp) (.inr (BH Fa)) ?_;refine Ky (w':=wi.setCell ⟨q,0,none⟩ (.slice (some ⟨g',0,none⟩) (k+1) GI)) rfl rfl (by go_simp) (.inl rfl) ?_;have aC:CS Z w5 q mb c ss (k+1) (.slice (some ⟨g',0,none⟩) (k+1) GI) (wi.setCell ⟨q,0,none⟩ (.slice (some ⟨g',0,none⟩) (k+1) GI)):=by
       have Sz:Am (fun x=>x=q) wi (wi.setCell ⟨q,0,none⟩ (.slice (some ⟨g',0,none⟩) (k+1) GI)):=(Am.refl (fun x=>x=q) wi).DG;have hzq:∀ {A:Zb} x,ZZ Z w5.heap.size A x→¬x=q:=fun x hx e=>by
        rcases hx with hx|hx
        ·exact hZq x hx e
        ·have:=hx.1.1;omega
       have hzg:∀ {A:Zb} (hA:∀g cs,wr.heap[g]?=some (Obj.cells cs 27 (0,0))→A.heap[g]?=some (Obj.cells cs 27 (0,0))) x,ZZ Z w5.heap.size A x→¬(Zy cz k p_).ownBlock=some x:=fun hA x hx e=>by
        obtain⟨h1,cs,h2⟩:=FD x e;rcases hx with hx|⟨_,cs',hx⟩
        ·have:=pf x hx;omega
        ·rw[hA x cs h2]at hx;cases hx
       have hTw:Am (fun x=>(Zy cz k p_).ownBlock=some x) wr wi:=((Am.later KE).mono fun _ x=>x).trans I1;have UC:=hzg (A:=wr) (fun g cs h=>h);have pD:=hzg (A:=W1a) (fun g cs h=>(KE.block g (Za.1 h).1).trans h);refine⟨(hT.trans (Fa.mono fun x hx=>.inr ?_)).trans (Sz.mono fun x hx=>.inl hx),A5 Ng _,vals++ [.slice fa (I2 c s0).length fc],DF Sz (fun b h1 h2=>by omega) Cx,fun i f hf=>?_⟩
       ·rcases Zae x w5.heap.size with h|h
        ·exact absurd hx (pj x h)
        ·exact h
       rw[HTK.out]at hf;have hvl:vals.length=k:=by have:=AY.1;omega
       have bp:((ss.map (I2 c)).take k).length=k:=by simp;omega
       by_cases su:i<k
       ·rw[zD (by omega)]at hf
        obtain⟨u,h1,h2⟩:=GF i f hf;exact⟨u,by rw[zD (by omega)];exact h1,slz (slz h2 hTw UC) Sz hzq⟩
       ·have iV:=(Zo.1 hf).1
        rw[ZV,zK,zY,bp]at iV;obtain rfl:i=k:=by omega
        rw[List.getElem?_append_right (by omega),bp,Nat.sub_self]at hf;cases hf;exact⟨.slice fa (I2 c s0).length fc,by rw[List.getElem?_append_right (by omega),hvl,Nat.sub_self];rfl,slz (slz (slz aaS (T:=fun _=>False) ((Am.later bz).mono fun _ x=>x) fun _ _ x=>x) I1 pD) Sz hzq⟩
      have HC2:=Zh aC;clear aC hC Fa I1 dS NC KE bz tD aR tC Pt aaS AY Cx wh GF AG Fi FD f0 e0 Ng hT hSZ hSd Se j8;unfold DR
      go_simp
      go_wp2;go_roundg (ss.length - (k+1))
      case rel=>exact⟨k+1,_,Az,rfl,by go_num,HC2.out⟩
      case measure=>omega
     ·refine .inr ⟨x',rfl,?_⟩
      have KC:Zm w.heap.size w W1:=((o_.trans (hT.below (fun x hx=>by rcases hx with h|h<;>omega) (by omega))).trans (hBd.mono (by omega))).trans (aR.mono (show w.heap.size≤wr.drew.heap.size from by show w.heap.size≤wr.heap.size;omega));exact⟨rfl,KC,.inr ⟨_,rfl,Vq⟩⟩
    ·have Wk:k=ss.length:=by omega
     subst Wk;have tE:(ss.map (I2 c)).length=ss.length:=by simp
     obtain⟨fits,gK⟩:∃fits,fits=ss.map (I2 c):=⟨_,rfl⟩;rw[←gK]at GF tE;rw[List.take_of_length_le (by omega)]at GF;have xT:∀f∈fits,f.length≤1000∧∀l∈f,l.length=c.Aa.length:=by
      intro f hf;rw[gK]at hf;obtain⟨s,_,rfl⟩:=List.mem_map.1 hf;exact⟨Zx (List.length_filter_le _ _) (by omega),fun l hl=>(Sj c.Aa l (List.mem_filter.1 hl).1).1⟩
     have agV:wr.heap[mb]?=some (.map #[] 0):=(hT.block mb (by omega) (hnK mb (by omega) nY)).trans hM5;have hZL:∀b,ZZ Z w5.heap.size wr b→LS wr.heap.size mb wr b:=fun b hb=>by
      rcases hb with hb|hb
      ·have:=pf b hb;exact .inl ⟨by omega,hZm b hb,by omega⟩
      ·have h1:=hb.1.1;have h2:=hb.1.2;exact .inl ⟨h2,by omega,h2⟩
     have hSF:SF wr.heap.size mb wr (.slice cz ss.length p_) fits:=by
      have h0:Sl (Cy w5.heap.size wr) (Rll wr.heap.size mb) 1 wr (.slice cz ss.length p_) fits:=Ov (l:=fits) (by decide) (by rw[tE];exact AY) (fun i f hf=>by
       obtain⟨u,hu,yQ⟩:=GF i f hf;refine⟨u,?_,Sl.imp yQ hZL fun _ _ ⟨u',e,DJ⟩=>⟨u',e,Sl.imp DJ hZL fun _ _ x=>x⟩⟩;obtain⟨Df,e⟩:=Zo.1 hu;rw[Nat.mul_one,Z4 Df,e]
       rfl)
      exact Sl.imp h0 (fun b hb=>.inl ⟨hb.2,by have:=hb.1;omega,hb.2⟩) (fun _ _ x=>x)
     have agW:jN c c:=⟨rfl,rfl,rfl,rfl,hv.yT,fun i hi=>hv.left i hi,fun i hi=>⟨rfl,rfl,rfl,rfl⟩⟩;have hM:Gj (Fu wr.heap.size mb ab c fits) mb wr:=⟨#[],0,agV,fun e he=>by simp at he⟩;have agX:=agS.Au hSZ;have SE:Calls Lp 105 #[.agg #[.slice cz ss.length p_,.map (some mb)],.agg #[.slice a1 c.base.length c1,.slice a2 c.Ag.length c2,.slice a3 c.hooks.length c3,.slice a4 c.Aa.length c4,.slice a5 c.now.length c5,.int .u8 (ab 0),.int .u8 (ab 1),.int .u8 (ab 2)],.int .i64 0] wr (fun e w'=>∃v,e=.returned v∧Cf mb wr w'∧KJ wr.heap.size mb w' v (Gi ab fits c)∧Gj (Fu wr.heap.size mb ab c fits) mb w'):=
      anp hv vy.out (by omega) xT kB fits.length 0 c wr _ _ _ _ _ Z (by omega) (Zj _) (by omega) agW hSF agX (fun b hb=>⟨by have:=pf b hb;omega,hZm b hb⟩) hM
     have HR:=Zh (show oY c ss=Gi ab fits c by rw[vy.out,gK];rfl);have Uh:Zm w.heap.size w wr:=o_.trans (hT.below (fun x hx=>by rcases hx with h|h<;>omega) (by omega));have hmw:mb<wr.heap.size:=by omega
     have m0:=ch (i:=0) hC.box (v:=.slice cz ss.length p_) rfl;have m1':=ch (i:=1) hC.box (v:=.map (some mb)) rfl;have SK:Kept wr.heap.size mb wr wr:=Kept.refl _ _ _;have HFL:=Zh tE;have HBT:∀W,Cf mb wr W→Zm w.heap.size w W:=fun W hU=>Uh.trans ((hU.Du (K:=fun x=>x=mb) rfl).below (fun x hx=>by have:x=mb:=hx;omega) (by omega));clear hSF hM agW agX agV hZL GF AY gK tE SK hT hSZ Se hC;cases hr:Gi ab fits c with
     |none=>
      rw[hr]at SE HR;have H5:=Zh (SE.mono (R':=fun e w'=>e=.returned (.agg #[.slice none 0 0,.int .i64 0,.bool false])∧Cf mb wr w') fun e w' ⟨v,he,hU,gM,_⟩=>⟨by rw[he,show v=_ from gM],hU⟩);clear SE hr;go_wp2_with (go_at_call 105;refine H5.out.mono ?_;rintro e W6 ⟨rfl,gE⟩);refine ZX (D' rfl _ _ _) rfl ?_;refine⟨bA (HBT _ gE),.inl ⟨_,by unfold o8 o9;rw[HR.out];rfl,?_⟩⟩;unfold oZ;rw[HR.out];exact⟨none,0,rfl,Zj _,Zt _,fun i x hx=>by cases hx⟩
     |some p=>
      obtain⟨pl,pn⟩:=p;rw[hr]at SE HR;obtain⟨_,_,Wt⟩:=Mq ab _ _ _ hr;have avE:pl.length≤3:=by have:=HFL.out;simp only at Wt;omega
      have H5:=Zh (SE.mono (R':=fun e w'=>∃ya yc,e=.returned (.agg #[.slice ya pl.length yc,.int .i64 pn,.bool true])∧Cf mb wr w'∧LL wr.heap.size mb w' (.slice ya pl.length yc) pl) fun e w' ⟨v,he,hU,⟨u,gM,hl⟩,_⟩=>by
       obtain⟨ya,yc,rfl,_⟩:=Sl.val hl;exact⟨ya,yc,by rw[he,gM],hU,hl⟩)
      have xq:∀l∈pl,l.length≤1000:=by
       have anN:∀f∈fits,∀l∈f,l.length≤1000:=fun f hf l hl=>by rw[(xT f hf).2 l hl];omega
       exact bh ab (fun l=>l.length≤1000) fits c (pl,pn) anN hr
      have hmk:=fun W=>oX pl.length (by omega) W;clear SE hr Wt xT;go_wp2_with (go_at_call 105;refine H5.out.mono ?_;rintro e W6 ⟨ya,yc,rfl,gE,hL6⟩);obtain⟨W7,hW7⟩:∃W7,W7=(W6.alloc (.cells #[.slice ya pl.length yc,.int .i64 pn,.bool true] 141)).alloc (.cells (Yd pl.length (Zy none 0 0)) 22):=⟨_,rfl⟩;have hC7:CL W6 pl #[.slice ya pl.length yc,.int .i64 pn,.bool true] 0 (Yd pl.length (Zy none 0 0)) W7:=by
       rw[hW7];exact⟨bA (bA (Zi _ _)),Bm (Bv _ _) _,JL _ _ _,by simp,fun i hi=>absurd hi (by omega)⟩
      have anP:SL (fun b=>b<W6.heap.size) W6 (.slice ya pl.length yc) pl:=Sl.imp hL6 (fun b hb=>hb.lt) fun _ _ ⟨u,e,hs⟩=>⟨u,e,Sl.imp hs (fun b hb=>hb.lt) fun _ _ x=>x⟩;have DQ:=HBT _ gE;rw[←hW7];clear hW7 hL6 gE;go_loopg [82] pl.length (fun g i wx=>∃(k:Nat) (cur:Array Zc),k≤pl.length∧g=pl.length - k∧i=.int .i64 k∧CL W6 pl #[.slice ya pl.length yc,.int .i64 pn,.bool true] k cur wx)
      case atStart=>exact⟨0,_,Zt _,rfl,rfl,hC7⟩
      case round=>
       obtain⟨k,cur,hk,rfl,rfl,hC⟩:=hrel;have bx0:=ch (i:=0) hC.box (v:=.slice ya pl.length yc) rfl;have bx1:=ch (i:=1) hC.box (v:=.int .i64 pn) rfl;have hzr:W6.heap.size+1<wr.heap.size:=(Za.1 hC.out).1;by_cases Az:k<pl.length
       ·obtain⟨b,o,u,rfl,hb,hc,hu⟩:=SL.at_ anP Az
        have NT:=(hC.below.cell (p:=⟨b,o+k,none⟩) hb).trans hc;have j8:=SI.Au hu (fun x hx _=>hC.below.block x hx);obtain⟨l,hl⟩:∃l,l=CF pl k:=⟨_,rfl⟩;have hlm:=xq l (by rw[hl];exact Yh (DD Az));rw[←hl]at j8;have HLK:=Zh hl;clear hl hu hc;obtain⟨a7,c7,rfl,l7,m7⟩:=j8.val;have Tb:(k:Int)<(pl.length:Int):=by omega
        have hkc:k<cur.size:=by rw[hC.size];exact Az
        obtain⟨x0,Og⟩:∃x0,cur[k]?=some x0:=⟨_,ZB hkc⟩;have HLM:=Zh hlm;clear hlm;go_wp2_with (go_at_call 106;refine(vE j8 HLM.out).mono ?_;rintro e W8 ⟨u8,rfl,IX,hu8⟩;obtain⟨p8,d8,rfl,_⟩:=Sl.val hu8;(have hO8:=(IX.block _ hzr).trans hC.out);have ce:=ch hO8 Og;have fe:=cf (i:=k) hO8);have aC:CL W6 pl #[.slice (some ⟨b,o,none⟩) pl.length yc,.int .i64 pn,.bool true] (k+1) (cur.setIfInBounds k (.slice p8 l.length d8)) (W8.setCell ⟨W6.heap.size+1,k,none⟩ (.slice p8 l.length d8)):=by
         have Sz:=(Am.refl (fun x=>x=W6.heap.size+1) W8).DG (i:=k) (v:=.slice p8 l.length d8);have hty:∀ {n:Nat} x,ND 3 n W8 x→¬x=W6.heap.size+1:=fun x hx e=>by
          obtain⟨_,cs,h2⟩:=hx;rw[e,hO8]at h2;cases h2
         have agY:=hC.below.trans (IX.mono hC.below.size);refine⟨agY.trans (Sz.below (fun x hx=>by have:x=_:=hx;omega) agY.size),(AW (by omega) _).trans ((IX.block _ (by omega)).trans hC.box),A5 hO8 _,by simp[hC.size],fun i hi=>?_⟩;by_cases su:i=k
         ·subst su
          refine⟨.slice p8 l.length d8,Z9 hkc,?_⟩;rw[←HLK.out];exact I0 Sz hty (Sl.imp hu8 (fun b hb=>⟨⟨by have:=hb.1.1;omega,hb.1.2⟩,hb.2⟩) fun _ _ x=>x)
         ·obtain⟨u,h1,h2⟩:=hC.at_ i (by omega)
          exact⟨u,(Zk (Ne.symm su)).trans h1,I0 Sz hty (I0 (T:=fun _=>False) ((Am.later IX).mono fun _ x=>x) (fun _ _ x=>x) h2)⟩
        have HC2:=Zh aC;clear aC hC;go_roundg (pl.length - (k+1))
        case rel=>exact⟨k+1,_,Az,rfl,by go_num,HC2.out⟩
        case measure=>omega
       ·have Wk:k=pl.length:=by omega
        subst Wk;go_wp2;go_quiet (fail);go_wp2;refine ZX (D' rfl _ _ _) rfl ?_;have avI:=DQ.size;refine⟨bN (DQ.trans (hC.below.mono DQ.size)),.inl ⟨_,by unfold o8 o9;rw[HR.out];rfl,?_⟩⟩;unfold oZ;rw[HR.out];refine⟨some ⟨W6.heap.size+1,0,none⟩,pl.length,rfl,Zj _,by unfold maxLen;omega,fun i x hx=>?_⟩;have hi:=(Zo.1 hx).1;obtain⟨u,h1,h2⟩:=hC.at_ i hi;rw[show CF pl i=x by have:=DD hi;rw[hx]at this;exact(Z2 this).symm]at h2;refine⟨W6.heap.size+1,0,[u],rfl,⟨by omega,hzr⟩,rfl,fun j y hy=>?_,u,rfl,Sl.imp (SI.Au h2 (w':=wr.drewN _) fun b hb _=>rfl) (fun b hb=>⟨by have:=hb.1.1;omega,hb.1.2⟩) fun _ _ x=>x⟩;cases j with
        |zero=>
         cases hy;rw[show 0+i*1+0=i by omega];exact ch hC.out h1
        |succ j=>cases hy
section
variable {P:Zp}{ops:Array Oper}{Q:Exit→Act→Zb→Prop}{md:YD}{S:Zb→Prop}
theorem bj {ls:List Nat}{listed:Array Bool}{a:Act}{w:Zb}(hB:(Yv ops&&ltB md ops [] (fun L=>(zh md ops L).isEmpty) ls listed)=true)(hQ:∀c a d v w,Q (.panic c) (Act.put a d v) w→Q (.panic c) a w)(hS:S w)(h:Mg P ops S (fun a'=>Q .normal a' w) ls a):Co P md ops Q (fun _=>S) ls.length listed a w:=by
 rw[ZD]at hB;have hT:(Fq [] S:Nat→Zb→Prop)=fun _=>S:=by
  funext i w
  simp[Fq]
 have:=K1 (P:=P) (lates:=[]) (g:=0) (K:=fun a'=>Q .normal a' w) hB.1 hQ hS (fun listed a h1 h2=>by
  rw[hT];exact⟨by simpa using h1,h2⟩) ls listed a hB.2 h
 rw[hT,Ym]at this;exact this
end
abbrev Lt (W:Zb):Nat→Prop:=fun b=>b<W.heap.size
section
variable {n:Nat}{w1 X:Zb}{v1 v2 v3 v4 v5:Zc}{c:Aw}
theorem UF (hR:RC (Cy n w1) w1 v1 v2 v3 v4 v5 c){W:Zb}(hB:Zm w1.heap.size w1 W):RC (Lt W) W v1 v2 v3 v4 v5 c:=(hR.later hB).imp fun b hb=>Zl hb.2 hB.size
theorem Ho (l:List Int)(hl:l.length≤1000):SI (Lt (X.alloc (.cells (l.map (ZT .i64)).toArray 3))) (X.alloc (.cells (l.map (ZT .i64)).toArray 3)) (.slice (some ⟨X.heap.size,0,none⟩) l.length l.length) l:=
 Mn l (Bv _ _) (show X.heap.size<_ by simp) (by unfold maxLen;omega)
theorem anQ (hR:RC (Cy n w1) w1 v1 v2 v3 v4 v5 c)(hB:Zm w1.heap.size w1 X)(l:List Int)(hl:l.length≤1000):Calls Lp 45 #[.agg #[v1,v2,v3,v4,v5],.slice (some ⟨X.heap.size,0,none⟩) l.length l.length] (X.alloc (.cells (l.map (ZT .i64)).toArray 3)) (fV (X.alloc (.cells (l.map (ZT .i64)).toArray 3)) (E8 c l) (BZ c l)):=
 c45 (UF hR (hB.trans (bA (Zi _ _)|>.mono hB.size))) (Ho l hl) fun b hb=>hb
theorem anR (hR:RC (Cy n w1) w1 v1 v2 v3 v4 v5 c)(hB:Zm w1.heap.size w1 X)(l:List Int)(hl:l.length≤1000)(hgo:D_ c l=0→∃L,VM c l=some L):Calls Lp 54 #[.agg #[v1,v2,v3,v4,v5],.slice (some ⟨X.heap.size,0,none⟩) l.length l.length] (X.alloc (.cells (l.map (ZT .i64)).toArray 3)) (fV (X.alloc (.cells (l.map (ZT .i64)).toArray 3)) (Mm c l) (D_ c l)):=
 c54 (UF hR (hB.trans (bA (Zi _ _)|>.mono hB.size))) (Ho l hl) (fun b hb=>hb) hgo
theorem anS (hR:RC (Cy n w1) w1 v1 v2 v3 v4 v5 c)(hB:Zm w1.heap.size w1 X)(l:List Int)(hl:l.length≤1000):Calls Lp 69 #[.agg #[v1,v2,v3,v4,v5],.slice (some ⟨X.heap.size,0,none⟩) l.length l.length] (X.alloc (.cells (l.map (ZT .i64)).toArray 3)) fun e w'=>e=.returned (.tuple #[.string ⟨(Mo c l).toArray⟩,.int .i64 (BZ c l)])∧Zm (X.alloc (.cells (l.map (ZT .i64)).toArray 3)).heap.size (X.alloc (.cells (l.map (ZT .i64)).toArray 3)) w':=
 c69 (UF hR (hB.trans (bA (Zi _ _)|>.mono hB.size))) (Ho l hl) fun b hb=>hb
end
theorem g_asked:BZ (E_ 2 2 1) [1,-1,1]=0:=by decide+kernel
theorem g_girths:E8 (E_ 2 2 1) [1,-1,1]=[43,28]:=by decide+kernel
theorem g_fitsE:Sc (E_ 2 2 1) [0,0,0] [(38,40),(25,30)]=0:=by decide+kernel
theorem g_fitsV:PI (E_ 2 2 1) [0,0,0] [(38,40),(25,30)]=true:=by decide+kernel
theorem g_ready:D_ (E_ 2 2 1) [1,-1,1]=0:=by decide+kernel
theorem g_order:VM (E_ 2 2 1) [1,-1,1]=some [1,0,2]:=by decide+kernel
theorem g_orderV:Mm (E_ 2 2 1) [1,-1,1]=[1,0,2]:=by decide+kernel
theorem g_begin:BR (E_ 2 2 1)=0:=by decide+kernel
theorem g_sing:∀s∈ [[((46:Int),(46:Int)),(30,30)],[(36,36),(30,30)]],Hl (E_ 2 2 1).base.length s=0:=by decide+kernel
theorem g_sea:oY (E_ 2 2 1) [[(46,46),(30,30)],[(36,36),(30,30)]]=some ([[2,0,1],[-2,0,1]],3):=by decide+kernel
theorem g_write:Mo (E_ 2 2 1) [2,-1,0]=[97,43,50,98,45,49]:=by decide+kernel
theorem g_asked2:BZ (E_ 2 2 1) [2,-1,0]=0:=by decide+kernel
theorem g_lastsV:Em (E_ 2 2 1) [[0,1,0],[0,2,0],[0,0,0]]=(2,0):=by decide+kernel
theorem g_lastsE:FK (E_ 2 2 1) [[0,1,0],[0,2,0],[0,0,0]]=0:=by decide+kernel
theorem g_over:∀i,i<(E_ 2 2 1).Aa.length→(Aj (E_ 2 2 1).Aa i).over.length≤1000:=by
 intro i hi;have:i=0∨i=1∨i=2:=by have:(E_ 2 2 1).Aa.length=3:=rfl;omega
 rcases this with rfl|rfl|rfl<;>decide
theorem bT {w A B:Zb}(h:Zm w.heap.size w A)(k:Zm A.heap.size A B):Zm w.heap.size w B:=h.trans (k.mono h.size)
theorem Il {A B:Zb}{v:Zc}{l:List Int}(h:SI (Lt A) A v l)(hB:Zm A.heap.size A B):SI (Lt B) B v l:=Sl.imp (h.later hB) (fun b hb=>Zl hb hB.size) fun _ _ x=>x
theorem Nw {n:Nat}{A B:Zb}{v:Zc}{l:List (List Int)}(h:SL (Cy n A) A v l)(hB:Zm A.heap.size A B):SL (Cy n B) B v l:=
 Sl.imp (SL.Au h (w':=B) fun b _ hl=>hB.block b hl) (fun b hb=>⟨hb.1,Zl hb.2 hB.size⟩) fun _ _ ⟨u,e,hs⟩=>⟨u,e,Sl.imp hs (fun b hb=>⟨hb.1,Zl hb.2 hB.size⟩) fun _ _ x=>x⟩
theorem tF {A:Zb}{u v:Zc}{a b:List (Int×Int)}(hu:SP (Lt A) A u a)(hv:SP (Lt A) A v b):SSP (Lt (A.alloc (.cells #[u,v] 23))) (A.alloc (.cells #[u,v] 23)) (.slice (some ⟨A.heap.size,0,none⟩) 2 2) [a,b]:=by
 have hB:Zm A.heap.size A (A.alloc (.cells #[u,v] 23)):=bA (Zi _ _);have h2:∀ {x:Zc} {l:List (Int×Int)},SP (Lt A) A x l→SP (Lt (A.alloc (.cells #[u,v] 23))) (A.alloc (.cells #[u,v] 23)) x l:=fun h=>Sl.imp (h.later hB) (fun b hb=>Zl hb hB.size) fun _ _ x=>x;refine⟨some ⟨A.heap.size,0,none⟩,2,rfl,Zj _,by decide,fun i x hx=>?_⟩
 match i,hx with
 |0,hx=>
  cases hx;refine⟨A.heap.size,0,[u],rfl,by simp[Lt],rfl,fun j y hy=>?_,u,rfl,h2 hu⟩;cases j with
  |zero=>cases hy;exact cn A #[u,v] 23 rfl
  |succ j=>cases hy
 |1,hx=>
  cases hx;refine⟨A.heap.size,0,[v],rfl,by simp[Lt],rfl,fun j y hy=>?_,v,rfl,h2 hv⟩;cases j with
  |zero=>cases hy;exact cn A #[u,v] 23 rfl
  |succ j=>cases hy
theorem F3 {n:Nat}{A B:Zb}{v:Zc}{l:List Int}(h:SI (Cy n A) A v l)(hB:Zm A.heap.size A B):SI (Cy n B) B v l:=Sl.imp (h.later hB) (fun b hb=>⟨hb.1,Zl hb.2 hB.size⟩) fun _ _ x=>x
theorem pk {A:Zb}{u v x:Zc}{a b c:List Int}(hu:SI (Lt A) A u a)(hv:SI (Lt A) A v b)(hx:SI (Lt A) A x c):SL (Lt (A.alloc (.cells #[u,v,x] 22))) (A.alloc (.cells #[u,v,x] 22)) (.slice (some ⟨A.heap.size,0,none⟩) 3 3) [a,b,c]:=by
 have hB:Zm A.heap.size A (A.alloc (.cells #[u,v,x] 22)):=bA (Zi _ _);refine⟨some ⟨A.heap.size,0,none⟩,3,rfl,Zj _,by decide,fun i y hy=>?_⟩
 match i,hy with
 |0,hy=>
  cases hy;refine⟨A.heap.size,0,[u],rfl,by simp[Lt],rfl,fun j z hz=>?_,u,rfl,Il hu hB⟩;cases j with
  |zero=>cases hz;exact cn A #[u,v,x] 22 rfl
  |succ j=>cases hz
 |1,hy=>
  cases hy;refine⟨A.heap.size,0,[v],rfl,by simp[Lt],rfl,fun j z hz=>?_,v,rfl,Il hv hB⟩;cases j with
  |zero=>cases hz;exact cn A #[u,v,x] 22 rfl
  |succ j=>cases hz
 |2,hy=>
  cases hy;refine⟨A.heap.size,0,[x],rfl,by simp[Lt],rfl,fun j z hz=>?_,x,rfl,Il hx hB⟩;cases j with
  |zero=>cases hz;exact cn A #[u,v,x] 22 rfl
  |succ j=>cases hz
theorem aaU {A:Zb}{u v:Zc}{a b:List Int}(hu:SI (Lt A) A u a)(hv:SI (Lt A) A v b):SL (Lt (A.alloc (.cells #[u,v] 22))) (A.alloc (.cells #[u,v] 22)) (.slice (some ⟨A.heap.size,0,none⟩) 2 2) [a,b]:=by
 have hB:Zm A.heap.size A (A.alloc (.cells #[u,v] 22)):=bA (Zi _ _);refine⟨some ⟨A.heap.size,0,none⟩,2,rfl,Zj _,by decide,fun i y hy=>?_⟩
 match i,hy with
 |0,hy=>
  cases hy;refine⟨A.heap.size,0,[u],rfl,by simp[Lt],rfl,fun j z hz=>?_,u,rfl,Il hu hB⟩;cases j with
  |zero=>cases hz;exact cn A #[u,v] 22 rfl
  |succ j=>cases hz
 |1,hy=>
  cases hy;refine⟨A.heap.size,0,[v],rfl,by simp[Lt],rfl,fun j z hz=>?_,v,rfl,Il hv hB⟩;cases j with
  |zero=>cases hz;exact cn A #[u,v] 22 rfl
  |succ j=>cases hz
theorem anT {n:Nat}{w1 V:Zb}{v1 v2 v3 v4 v5:Zc}{c:Aw}(hR:RC (Cy n w1) w1 v1 v2 v3 v4 v5 c)(hB:Zm w1.heap.size w1 V)(hG:IZ V)(kB:∀i,i<c.Aa.length→(Aj c.Aa i).over.length≤1000):
  Calls Lp 34 #[.agg #[v1,v2,v3,v4,v5],.slice (some ⟨V.heap.size+1+1+1,0,none⟩) 3 3] ((((V.alloc (.cells #[.int .i64 0,.int .i64 1,.int .i64 0] 3)).alloc (.cells #[.int .i64 0,.int .i64 2,.int .i64 0] 3)).alloc (.cells #[.int .i64 0,.int .i64 0,.int .i64 0] 3)).alloc (.cells #[.slice (some ⟨V.heap.size,0,none⟩) 3 3,.slice (some ⟨V.heap.size+1,0,none⟩) 3 3,.slice (some ⟨V.heap.size+1+1,0,none⟩) 3 3] 22))
   (Two ((((V.alloc (.cells #[.int .i64 0,.int .i64 1,.int .i64 0] 3)).alloc (.cells #[.int .i64 0,.int .i64 2,.int .i64 0] 3)).alloc (.cells #[.int .i64 0,.int .i64 0,.int .i64 0] 3)).alloc (.cells #[.slice (some ⟨V.heap.size,0,none⟩) 3 3,.slice (some ⟨V.heap.size+1,0,none⟩) 3 3,.slice (some ⟨V.heap.size+1+1,0,none⟩) 3 3] 22)) (.tuple #[.int .i64 (Em c [[0,1,0],[0,2,0],[0,0,0]]).1,.int .i64 (Em c [[0,1,0],[0,2,0],[0,0,0]]).2,.int .i64 (FK c [[0,1,0],[0,2,0],[0,0,0]])])):=by
 have h1:SI (Lt (V.alloc (.cells #[.int .i64 0,.int .i64 1,.int .i64 0] 3))) _ _ [0,1,0]:=Ho (X:=V) [0,1,0] (by decide);have h2:SI (Lt ((V.alloc (.cells #[.int .i64 0,.int .i64 1,.int .i64 0] 3)).alloc (.cells #[.int .i64 0,.int .i64 2,.int .i64 0] 3))) _ _ [0,2,0]:=Ho (X:=V.alloc (.cells #[.int .i64 0,.int .i64 1,.int .i64 0] 3)) [0,2,0] (by decide);have h3:SI (Lt (((V.alloc (.cells #[.int .i64 0,.int .i64 1,.int .i64 0] 3)).alloc (.cells #[.int .i64 0,.int .i64 2,.int .i64 0] 3)).alloc (.cells #[.int .i64 0,.int .i64 0,.int .i64 0] 3))) _ _ [0,0,0]:=Ho (X:=(V.alloc (.cells #[.int .i64 0,.int .i64 1,.int .i64 0] 3)).alloc (.cells #[.int .i64 0,.int .i64 2,.int .i64 0] 3)) [0,0,0] (by decide);have hs:=pk (Il (Il h1 (bA (Zi _ _))) (bA (Zi _ _))) (Il h2 (bA (Zi _ _))) h3;simp only[ZG,zK,zY,Ym,Zak]at hs;have Dz:=bA (o:=.cells #[.slice (some ⟨V.heap.size,0,none⟩) 3 3,.slice (some ⟨V.heap.size+1,0,none⟩) 3 3,.slice (some ⟨V.heap.size+1+1,0,none⟩) 3 3] 22) (bA (o:=.cells #[.int .i64 0,.int .i64 0,.int .i64 0] 3) (bA (o:=.cells #[.int .i64 0,.int .i64 2,.int .i64 0] 3) (bA (o:=.cells #[.int .i64 0,.int .i64 1,.int .i64 0] 3) (Zi V.heap.size V))));exact c34 (UF hR (bT hB Dz)) hs (fun b hb=>hb) (hG.later Dz) kB
theorem agZ {n:Nat}{X:Zb}{v:Zc}{a:List Int}(hv:SI (Cy n X) X v a)(l:List Int)(hl:l.length≤1000):Calls Lp 46 #[v,.slice (some ⟨X.heap.size,0,none⟩) l.length l.length] (X.alloc (.cells (l.map (ZT .i64)).toArray 3)) fun e w'=>e=.returned (.bool (KH a l))∧Zm X.heap.size X w':=
 (c46 (F3 hv (bA (Zi _ _))) (Ho l hl) (fun b hb=>hb.2) fun b hb=>hb).mono fun e w' ⟨h1,h2⟩=>⟨h1,bT (bA (Zi _ _)) h2⟩
theorem anU {n:Nat}{X:Zb}{v:Zc}{a:List (List Int)}(hv:SL (Cy n X) X v a):
  Calls Lp 37 #[v,.slice (some ⟨X.heap.size+1+1,0,none⟩) 2 2] (((X.alloc (.cells #[.int .i64 2,.int .i64 0,.int .i64 1] 3)).alloc (.cells #[.int .i64 (-2),.int .i64 0,.int .i64 1] 3)).alloc (.cells #[.slice (some ⟨X.heap.size,0,none⟩) 3 3,.slice (some ⟨X.heap.size+1,0,none⟩) 3 3] 22)) fun e w'=>e=.returned (.bool (OA a [[2,0,1],[-2,0,1]]))∧Zm X.heap.size X w':=by
 have h1:SI (Lt (X.alloc (.cells #[.int .i64 2,.int .i64 0,.int .i64 1] 3))) _ _ [2,0,1]:=Ho (X:=X) [2,0,1] (by decide);have h2:SI (Lt ((X.alloc (.cells #[.int .i64 2,.int .i64 0,.int .i64 1] 3)).alloc (.cells #[.int .i64 (-2),.int .i64 0,.int .i64 1] 3))) _ _ [-2,0,1]:=Ho (X:=X.alloc (.cells #[.int .i64 2,.int .i64 0,.int .i64 1] 3)) [-2,0,1] (by decide);have hs:=aaU (Il h1 (bA (Zi _ _))) h2;simp only[ZG,zK,zY,Ym,Zak]at hs;have Dz:=bA (o:=.cells #[.slice (some ⟨X.heap.size,0,none⟩) 3 3,.slice (some ⟨X.heap.size+1,0,none⟩) 3 3] 22) (bA (o:=.cells #[.int .i64 (-2),.int .i64 0,.int .i64 1] 3) (bA (o:=.cells #[.int .i64 2,.int .i64 0,.int .i64 1] 3) (Zi X.heap.size X)));exact(c37 (Nw hv Dz) hs (fun b hb=>hb.2) fun b hb=>hb).mono fun e w' ⟨h1,h2⟩=>⟨h1,bT Dz h2⟩
theorem aaV:KH [43,28] [43,28]=true:=by decide
theorem aaW:KH [1,0,2] [1,0,2]=true:=by decide
theorem aaX:OA [[2,0,1],[-2,0,1]] [[2,0,1],[-2,0,1]]=true:=by decide
theorem ah0 {n:Nat}{X:Zb}{p:Option Addr}{d:Nat}(hv:SI (Cy n X) X (.slice p 2 d) [43,28]):Calls Lp 46 #[.slice p 2 d,.slice (some ⟨X.heap.size,0,none⟩) 2 2] (X.alloc (.cells #[.int .i64 43,.int .i64 28] 3)) fun e w'=>e=.returned (.bool true)∧Zm X.heap.size X w':=by
 have h:=agZ hv [43,28] (by decide);rw[aaV]at h;exact h
theorem ah1 {n:Nat}{X:Zb}{p:Option Addr}{d:Nat}(hv:SI (Cy n X) X (.slice p 3 d) [1,0,2]):Calls Lp 46 #[.slice p 3 d,.slice (some ⟨X.heap.size,0,none⟩) 3 3] (X.alloc (.cells #[.int .i64 1,.int .i64 0,.int .i64 2] 3)) fun e w'=>e=.returned (.bool true)∧Zm X.heap.size X w':=by
 have h:=agZ hv [1,0,2] (by decide);rw[aaW]at h;exact h
theorem ah2 {n:Nat}{X:Zb}{p:Option Addr}{d:Nat}(hv:SL (Cy n X) X (.slice p 2 d) [[2,0,1],[-2,0,1]]):
  Calls Lp 37 #[.slice p 2 d,.slice (some ⟨X.heap.size+1+1,0,none⟩) 2 2] (((X.alloc (.cells #[.int .i64 2,.int .i64 0,.int .i64 1] 3)).alloc (.cells #[.int .i64 (-2),.int .i64 0,.int .i64 1] 3)).alloc (.cells #[.slice (some ⟨X.heap.size,0,none⟩) 3 3,.slice (some ⟨X.heap.size+1,0,none⟩) 3 3] 22)) fun e w'=>e=.returned (.bool true)∧Zm X.heap.size X w':=by
 have h:=anU hv;rw[aaX]at h;exact h
theorem c26 (w:Zb)(hG:IZ w):Calls Lp 26 #[] w (Two w (.bool true)):=by
 obtain⟨C,hC⟩:∃C,C=E_ 2 2 1:=⟨_,rfl⟩;have fa:=g_asked;have fg:=g_girths;have fr:=g_ready;have fo:=g_order;have fv:=g_orderV;have e1:=g_fitsE;have e2:=g_fitsV;have e3:=g_begin;have e4:=g_sing;have e5:=g_sea;have e6:=g_write;have e7:=g_asked2;have e8:=g_lastsV;have e9:=g_lastsE;have e0:=g_over;have H84:=Zh (c84 2 2 1 w);rw[←hC]at fa fg fr fo fv e0 e1 e2 e3 e4 e5 e6 e7 e8 e9 H84;clear hC;have F45:=Zh (zb fa fg);have F54:=Zh (zb fr (zb fo fv));have F62:=Zh (zb e1 e2);have F41:=Zh (zb e3 (zb e4 (zb e5 e0)));have F69:=Zh (zb e6 e7);have F34:=Zh (show Em C [[0,1,0],[0,2,0],[0,0,0]]=(2,0)∧FK C [[0,1,0],[0,2,0],[0,0,0]]=0∧∀i,i<C.Aa.length→(Aj C.Aa i).over.length≤1000 from⟨e8,e9,e0⟩);clear fa fg fr fo fv e0 e1 e2 e3 e4 e5 e6 e7 e8 e9;have m1:=Yo;go_enter Lp.func26,n26;go_wp2_with (go_at_call 84;refine H84.out.mono ?_;rintro e w1 ⟨u1,u2,u3,u4,u5,rfl,Bw,hR⟩;obtain⟨a1,c1,rfl,_⟩:=hR.base.val;obtain⟨a2,c2,rfl,_⟩:=hR.Ag.val;obtain⟨a3,c3,rfl,_⟩:=hR.hooks.val;obtain⟨a4,c4,rfl,_⟩:=hR.Aa.val;obtain⟨a5,c5,rfl,_⟩:=hR.now.val);obtain⟨X,hX⟩:∃X,X=w1.alloc (.cells #[.slice a1 C.base.length c1,.slice a2 C.Ag.length c2,.slice a3 C.hooks.length c3,.slice a4 C.Aa.length c4,.slice a5 C.now.length c5] 26):=⟨_,rfl⟩;have hz:w1.heap.size+1=X.heap.size:=by rw[hX];simp
 have NF:Zm w1.heap.size w1 X:=by rw[hX];exact bA (Zi _ _)
 have hK:X.heap[w1.heap.size]?=some (.cells #[.slice a1 C.base.length c1,.slice a2 C.Ag.length c2,.slice a3 C.hooks.length c3,.slice a4 C.Aa.length c4,.slice a5 C.now.length c5] 26 (0,0)):=by rw[hX];exact Bv _ _
 rw[hz, ←hX];clear hX;refine(anQ hR NF [1,-1,1] (by decide)).mono ?_;rintro e w3 ⟨v3,rfl,BA,gJ⟩;rw[F45.out.1];rw[F45.out.2]at gJ;obtain⟨p3,d3,rfl,_⟩:=gJ.val;have aaY:=bT (bA (Zi X.heap.size X)) BA;have aaZ:=bT NF aaY;have F1:w3.heap[w1.heap.size]?=some (.cells #[.slice a1 C.base.length c1,.slice a2 C.Ag.length c2,.slice a3 C.hooks.length c3,.slice a4 C.Aa.length c4,.slice a5 C.now.length c5] 26 (0,0)):=(aaY.block _ (by omega)).trans hK;have uT:=gJ;clear BA gJ aaY hK;have z0:=fun p=>Aq p (ch (i:=0) F1 (v:=.slice a1 C.base.length c1) rfl);have z1:=fun p=>Aq p (ch (i:=1) F1 (v:=.slice a2 C.Ag.length c2) rfl);have z2:=fun p=>Aq p (ch (i:=2) F1 (v:=.slice a3 C.hooks.length c3) rfl);have z3:=fun p=>Aq p (ch (i:=3) F1 (v:=.slice a4 C.Aa.length c4) rfl);have z4:=fun p=>Aq p (ch (i:=4) F1 (v:=.slice a5 C.now.length c5) rfl);dsimp only;go_wp2;refine GU (S:=fun W=>∃p,W=calm w3 p) [0] 8 #[true,false,false,false,false,false,false,false,false] (by kernel_rfl) (fun _ _ d _ _ h=>by cases d<;>exact h) (by kernel_rfl) (AK (Zi _ _).drew) ?_;refine Bf _ _ (by kernel_rfl) ?_;simp only[zQ,zW,ZY,ZO,ZN]
 repeat (first|go_big_quiet_step (fail)|quiet_step (fail))
 refine Ye ?_;clear z0 z1 z2 z3 z4;change Co _ _ _ _ _ _ _ _ _;obtain⟨V,hV⟩:∃V,V=w3.drew:=⟨_,rfl⟩;have hX:Zm w3.heap.size w3 V:=by rw[hV];exact(Zi _ _).drew
 rw[←hV];clear hV;refine AJ [1,2] (by kernel_rfl) (by simp) (HN ?gA ?gB)
 case' gA=>
  refine EI (v:=.slice (some ⟨V.heap.size,0,none⟩) 3 3) (w':=V.alloc (.cells #[.int .i64 0,.int .i64 0,.int .i64 0] 3)) rfl rfl (by go_simp) ?_;have jA:=Ho (X:=V) [0,0,0] (by decide);obtain⟨V2,eO⟩:∃V2,V2=V.alloc (.cells #[.int .i64 0,.int .i64 0,.int .i64 0] 3):=⟨_,rfl⟩;replace jA:SI (Lt V2) V2 (.slice (some ⟨V.heap.size,0,none⟩) 3 3) [0,0,0]:=by rw[eO];exact jA
  have LB:Zm V.heap.size V V2:=by rw[eO];exact bA (Zi _ _)
  rw[←eO];clear eO;replace hX:=bT hX LB;obtain⟨n1,sH⟩:∃n1,n1=V.heap.size:=⟨_,rfl⟩;rw[←sH]at jA⊢;clear sH LB;refine⟨AK hX,?_⟩;refine AJ [2] (by kernel_rfl) (by simp) (BB ?_);refine Dw (f:=85) (args:= #[.int .i64 38,.int .i64 40,.int .i64 25,.int .i64 30]) rfl rfl (by go_simp) ((c85 38 40 25 30 V2).mono ?_);rintro e V4 ⟨rfl,j5,hP⟩;obtain⟨n2,pU⟩:∃n2,n2=V2.heap.size:=⟨_,rfl⟩;rw[←pU]at hP⊢;clear pU;replace hX:=bT hX j5;refine .inl ⟨_,rfl,AK hX,?_⟩;replace jA:=Il jA j5;replace hP:=Sl.imp hP (fun b hb=>show b<V4.heap.size from hb.2) (fun _ _ x=>x);clear j5
 case' gB=>
  refine Dw (f:=85) (args:= #[.int .i64 38,.int .i64 40,.int .i64 25,.int .i64 30]) rfl rfl (by go_simp) ((c85 38 40 25 30 V).mono ?_);rintro e V2 ⟨rfl,j5,hP⟩;obtain⟨n2,pU⟩:∃n2,n2=V.heap.size:=⟨_,rfl⟩;rw[←pU]at hP⊢;clear pU;replace hX:=bT hX j5;refine .inl ⟨_,rfl,AK hX,?_⟩;refine AJ [1] (by kernel_rfl) (by simp) (BB ?_);refine EI (v:=.slice (some ⟨V2.heap.size,0,none⟩) 3 3) (w':=V2.alloc (.cells #[.int .i64 0,.int .i64 0,.int .i64 0] 3)) rfl rfl (by go_simp) ?_;have jA:=Ho (X:=V2) [0,0,0] (by decide);obtain⟨V4,Vx⟩:∃V4,V4=V2.alloc (.cells #[.int .i64 0,.int .i64 0,.int .i64 0] 3):=⟨_,rfl⟩;replace jA:SI (Lt V4) V4 (.slice (some ⟨V2.heap.size,0,none⟩) 3 3) [0,0,0]:=by rw[Vx];exact jA
  have K5:Zm V2.heap.size V2 V4:=by rw[Vx];exact bA (Zi _ _)
  rw[←Vx];clear Vx;replace hX:=bT hX K5;replace hP:=Sl.imp (hP.later K5) (fun b hb=>show b<V4.heap.size from Zl hb.2 K5.size) (fun _ _ x=>x);obtain⟨n1,sH⟩:∃n1,n1=V2.heap.size:=⟨_,rfl⟩;rw[←sH]at jA⊢;clear sH K5 j5;refine⟨AK hX,?_⟩
 all_goals
  refine AJ [3] (by kernel_rfl) (by simp) (BB ?_);refine Dw (f:=62) (args:= #[.agg #[.slice a1 C.base.length c1,.slice a2 C.Ag.length c2,.slice a3 C.hooks.length c3,.slice a4 C.Aa.length c4,.slice a5 C.now.length c5],.slice (some ⟨n1,0,none⟩) 3 3,.slice (some ⟨n2,0,none⟩) 2 2]) rfl rfl (by go_simp) ((c62 (UF hR (bT aaZ hX)) jA hP (fun b hb=>hb)).mono ?_);rintro e V5 ⟨rfl,ah3⟩;rw[F62.out.1,F62.out.2];replace hX:=bT hX ah3;refine .inl ⟨_,rfl,AK hX,?_⟩;refine bj (ls:=[4,5,6,7,8]) (by kernel_rfl) (fun _ _ d _ _ h=>by cases d<;>exact h) (AK hX) ?_;refine Cr (v:=.tuple #[.bool true,.int .i64 0]) rfl rfl (fun w _=>by go_simp) ?_;refine Cr (v:=.bool true) rfl rfl (fun w _=>by go_simp) ?_;refine Cr (v:=.int .i64 0) rfl rfl (fun w _=>by go_simp) ?_;refine Cr (v:=.bool true) rfl rfl (fun w _=>by go_simp) ?_;refine Cr (v:=.int .i64 0) rfl rfl (fun w _=>by go_simp) ?_;have wj:=(hX.block _ (Za.1 F1).1).trans F1;have Sy:=bT aaZ hX;have hg5:=F3 uT hX;clear hX ah3 jA hP F1 aaZ uT;unfold Mg
  go_simp
  have k0:=ch (i:=0) wj (v:=.slice a1 C.base.length c1) rfl;have k1:=ch (i:=1) wj (v:=.slice a2 C.Ag.length c2) rfl;have k2:=ch (i:=2) wj (v:=.slice a3 C.hooks.length c3) rfl;have k3:=ch (i:=3) wj (v:=.slice a4 C.Aa.length c4) rfl;have k4:=ch (i:=4) wj (v:=.slice a5 C.now.length c5) rfl;go_wp2;refine(anR hR Sy [1,-1,1] (by decide) (fun _=>⟨_,F54.out.2.1⟩)).mono ?_;rintro e w6 ⟨v6,rfl,DQ,mA⟩;rw[F54.out.1];rw[F54.out.2.2]at mA;obtain⟨p6,d6,rfl,_⟩:=mA.val;have Uu:=bT (bA (Zi V5.heap.size V5)) DQ;have Qg:=bT Sy Uu;have I8:w6.heap[w1.heap.size]?=some (.cells #[.slice a1 C.base.length c1,.slice a2 C.Ag.length c2,.slice a3 C.hooks.length c3,.slice a4 C.Aa.length c4,.slice a5 C.now.length c5] 26 (0,0)):=(Uu.block _ (Za.1 wj).1).trans wj;have hg6:=F3 hg5 Uu;have ho6:=mA;clear DQ mA Uu wj Sy hg5 k0 k1 k2 k3 k4;have z0:=fun p=>Aq p (ch (i:=0) I8 (v:=.slice a1 C.base.length c1) rfl);have z1:=fun p=>Aq p (ch (i:=1) I8 (v:=.slice a2 C.Ag.length c2) rfl);have z2:=fun p=>Aq p (ch (i:=2) I8 (v:=.slice a3 C.hooks.length c3) rfl);have z3:=fun p=>Aq p (ch (i:=3) I8 (v:=.slice a4 C.Aa.length c4) rfl);have z4:=fun p=>Aq p (ch (i:=4) I8 (v:=.slice a5 C.now.length c5) rfl);dsimp only;go_wp2;refine GU (S:=fun W=>∃p,W=calm w6 p) [0] 11 #[true,false,false,false,false,false,false,false,false,false,false,false] (by kernel_rfl) (fun _ _ d _ _ h=>by cases d<;>exact h) (by kernel_rfl) (AK (Zi _ _).drew) ?_;refine Bf _ _ (by kernel_rfl) ?_;simp only[zQ,zW,ZY,ZO,ZN]
  repeat (first|go_big_quiet_step (fail)|quiet_step (fail))
  refine Ye ?_;clear z0 z1 z2 z3 z4;change Co _ _ _ _ _ _ _ _ _;obtain⟨V,hV⟩:∃V,V=w6.drew:=⟨_,rfl⟩;have hX:Zm w6.heap.size w6 V:=by rw[hV];exact(Zi _ _).drew
  rw[←hV];clear hV;refine AJ [1] (by kernel_rfl) (by simp) (BB ?_);refine Dw (f:=85) (args:= #[.int .i64 46,.int .i64 46,.int .i64 30,.int .i64 30]) rfl rfl (by go_simp) ((c85 46 46 30 30 V).mono ?_);rintro e V2 ⟨rfl,Bh,hP⟩;obtain⟨na,pD⟩:∃na,na=V.heap.size:=⟨_,rfl⟩;rw[←pD]at hP⊢;clear pD;replace hX:=bT hX Bh;refine .inl ⟨_,rfl,AK hX,?_⟩;refine AJ [2] (by kernel_rfl) (by simp) (BB ?_);refine Dw (f:=85) (args:= #[.int .i64 36,.int .i64 36,.int .i64 30,.int .i64 30]) rfl rfl (by go_simp) ((c85 36 36 30 30 V2).mono ?_);rintro e V3 ⟨rfl,BA,hP2⟩;obtain⟨nb,hnb⟩:∃nb,nb=V2.heap.size:=⟨_,rfl⟩;rw[←hnb]at hP2⊢;clear hnb;replace hX:=bT hX BA;refine .inl ⟨_,rfl,AK hX,?_⟩;replace hP:SP (Lt V3) V3 (.slice (some ⟨na,0,none⟩) 2 2) [(46,46),(30,30)]:=Sl.imp (hP.later BA) (fun b hb=>Zl hb.2 BA.size) (fun _ _ x=>x);replace hP2:SP (Lt V3) V3 (.slice (some ⟨nb,0,none⟩) 2 2) [(36,36),(30,30)]:=Sl.imp hP2 (fun b hb=>hb.2) (fun _ _ x=>x);have hss:=tF hP hP2;refine AJ [3] (by kernel_rfl) (by simp) (BB ?_);refine EI (v:=.slice (some ⟨V3.heap.size,0,none⟩) 2 2) (w':=V3.alloc (.cells #[.slice (some ⟨na,0,none⟩) 2 2,.slice (some ⟨nb,0,none⟩) 2 2] 23)) rfl rfl (by go_simp) ?_;obtain⟨V4,Vx⟩:∃V4,V4=V3.alloc (.cells #[.slice (some ⟨na,0,none⟩) 2 2,.slice (some ⟨nb,0,none⟩) 2 2] 23):=⟨_,rfl⟩;have K5:Zm V3.heap.size V3 V4:=by rw[Vx];exact bA (Zi _ _)
  rw[←Vx]at hss⊢;clear Vx;obtain⟨nc,hnc⟩:∃nc,nc=V3.heap.size:=⟨_,rfl⟩;rw[←hnc]at hss⊢;replace hX:=bT hX K5;clear hnc K5 Bh BA hP hP2;refine⟨AK hX,?_⟩;refine AJ [4] (by kernel_rfl) (by simp) (BB ?_);refine Dw (f:=41) (args:= #[.agg #[.slice a1 C.base.length c1,.slice a2 C.Ag.length c2,.slice a3 C.hooks.length c3,.slice a4 C.Aa.length c4,.slice a5 C.now.length c5],.slice (some ⟨nc,0,none⟩) 2 2]) rfl rfl (by go_simp) ((c41 (UF hR (bT Qg hX)) hss (fun b hb=>hb) F41.out.1 (by decide) F41.out.2.1 F41.out.2.2.2).mono ?_);rintro e V5 ⟨Ck,⟨v5,rfl,Pt⟩|⟨x,rfl,Vq⟩⟩
  ·have hN:o8 C [[((46:Int),(46:Int)),(30,30)],[(36,36),(30,30)]]=3:=by unfold o8;rw[F41.out.2.2.1]
   have hE:o9 C [[((46:Int),(46:Int)),(30,30)],[(36,36),(30,30)]]=0:=by unfold o9;rw[F41.out.2.2.1]
   have hL:oZ C [[((46:Int),(46:Int)),(30,30)],[(36,36),(30,30)]]=[[2,0,1],[-2,0,1]]:=by unfold oZ;rw[F41.out.2.2.1]
   rw[hN,hE];rw[hL]at Pt;clear hN hE hL;obtain⟨p8,d8,rfl,_⟩:=Sl.val Pt;replace hX:=bT hX Ck;refine .inl ⟨_,rfl,AK hX,?_⟩;refine bj (ls:=[5,6,7,8,9,10,11]) (by kernel_rfl) (fun _ _ d _ _ h=>by cases d<;>exact h) (AK hX) ?_;refine Cr (v:=.tuple #[.slice p8 2 d8,.int .i64 3,.int .i64 0]) rfl rfl (fun w _=>by go_simp) ?_;refine Cr (v:=.slice p8 2 d8) rfl rfl (fun w _=>by go_simp) ?_;refine Cr (v:=.int .i64 3) rfl rfl (fun w _=>by go_simp) ?_;refine Cr (v:=.int .i64 0) rfl rfl (fun w _=>by go_simp) ?_;refine Cr (v:=.slice p8 2 d8) rfl rfl (fun w _=>by go_simp) ?_;refine Cr (v:=.int .i64 3) rfl rfl (fun w _=>by go_simp) ?_;refine Cr (v:=.int .i64 0) rfl rfl (fun w _=>by go_simp) ?_;have Tg:=(hX.block _ (Za.1 I8).1).trans I8;have ab0:=bT Qg hX;have hg7:=F3 hg6 hX;have ho7:=F3 ho6 hX;clear hX Ck hss I8 Qg hg6 ho6;unfold Mg
   go_simp
   have k0:=ch (i:=0) Tg (v:=.slice a1 C.base.length c1) rfl;have k1:=ch (i:=1) Tg (v:=.slice a2 C.Ag.length c2) rfl;have k2:=ch (i:=2) Tg (v:=.slice a3 C.hooks.length c3) rfl;have k3:=ch (i:=3) Tg (v:=.slice a4 C.Aa.length c4) rfl;have k4:=ch (i:=4) Tg (v:=.slice a5 C.now.length c5) rfl;go_wp2;refine(anS hR ab0 [2,-1,0] (by decide)).mono ?_;rintro e w8 ⟨rfl,IX⟩;rw[F69.out.1,F69.out.2];have hX8:=bT (bA (Zi V5.heap.size V5)) IX;have tG:=bT ab0 hX8;have pR:w8.heap[w1.heap.size]?=some (.cells #[.slice a1 C.base.length c1,.slice a2 C.Ag.length c2,.slice a3 C.hooks.length c3,.slice a4 C.Aa.length c4,.slice a5 C.now.length c5] 26 (0,0)):=(hX8.block _ (Za.1 Tg).1).trans Tg;have hg8:=F3 hg7 hX8;have ho8:=F3 ho7 hX8;have vq:=Nw Pt hX8;clear IX hX8 Tg ab0 hg7 ho7 Pt k0 k1 k2 k3 k4;have k0:=ch (i:=0) pR (v:=.slice a1 C.base.length c1) rfl;have k1:=ch (i:=1) pR (v:=.slice a2 C.Ag.length c2) rfl;have k2:=ch (i:=2) pR (v:=.slice a3 C.hooks.length c3) rfl;have k3:=ch (i:=3) pR (v:=.slice a4 C.Aa.length c4) rfl;have k4:=ch (i:=4) pR (v:=.slice a5 C.now.length c5) rfl;dsimp only;go_wp2;refine(anT hR tG (hG.later (bT Bw tG)) F34.out.2.2).mono ?_;rintro e w9 ⟨I5,rfl|⟨x,rfl,Vq⟩⟩
   ·rw[F34.out.1,F34.out.2.1]
    have hX9:=bT (bA (bA (bA (bA (Zi w8.heap.size w8))))) I5;have anX:=bT Bw (bT tG hX9);have hg9:=F3 hg8 hX9;have ho9:=F3 ho8 hX9;have yW:=Nw vq hX9;clear I5 hX9 pR hg8 ho8 vq k0 k1 k2 k3 k4;dsimp only;have m1:=Yo;go_wp2_with (first|(go_at_call 46;clear m1;refine(ah0 hg9).mono ?_;rintro e w10 ⟨rfl,Ot⟩;have ah5:=F3 ho9 Ot;have ah6:=Nw yW Ot;have ah7:=bT anX Ot;clear hg9 ho9 yW Ot)|(go_at_call 46;refine(ah1 ah5).mono ?_;rintro e w11 ⟨rfl,Ti⟩;have ah8:=Nw ah6 Ti;have fX:=bT ah7 Ti;clear ah5 ah6 Ti)|(go_at_call 37;refine(ah2 ah8).mono ?_;rintro e w12 ⟨rfl,aA⟩;have ah9:=bT fX aA;clear ah8 aA));go_ret;exact⟨ah9,.inl rfl⟩
   ·exact⟨rfl,bT Bw (bT tG (bT (bA (bA (bA (bA (Zi w8.heap.size w8))))) I5)),.inr ⟨_,rfl,Vq⟩⟩
  ·refine .inr ⟨x,rfl,?_⟩
   exact⟨rfl,bT Bw (bT (bT Qg hX) Ck),.inr ⟨_,rfl,Vq⟩⟩
end Go.Proofs.Fit
