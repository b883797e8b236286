/- Part of a proof. -/
import Derived.Test.YtkkjobdfheidkaaGreatDoorQ18
set_option maxRecDepth 100000
set_option maxHeartbeats 6400000
open And renaming intro→zb
open Array renaming getElem?_eq_some_iff→Za
open Go renaming World→Zb,Value→Zc,wpQuiet_nil→Ye,info_parts→YC,wp_append_own→Zav,TypeId→Zs,bodyPost_ret→ZX
open Go.IntKind renaming wrap_i64→Y5
open Go.Lib renaming hid→Zh
open Go.Proofs.Tryz renaming underlying22→ZaF
open Go.RowKit renaming Below→Zm
open Go.RowKit.Below renaming refl→Zi
open Go.Value renaming int→ZT,oneCell'→ZaL,slice→Zy
open Go.World renaming ownsRow_nil→Yz,size_alloc→ZG
open Go.World.ownsRow renaming alloc→Zac
open List renaming mem_of_getElem?→Yh,mem_cons_self→zF,mem_cons_of_mem→zr,length_cons→zK,filterMap_cons→zQ,filterMap_nil→zW,getElem?_toArray→ZY,getElem?_cons_succ→ZO,getElem?_cons_zero→ZN,length_append→ZV,mem_append→Zax,mem_singleton→YJ,range→ZaB,ext_getElem?→YM,getElem?_eq_none→ZS,getElem?_set_self→Ya,getElem?_set_ne→ZM,drop_eq_nil_iff→zf
open Nat renaming zero_add→Ym,le_refl→Zj,zero_le→Zt
namespace Go.Proofs.Fit
open Go Go.RowKit
theorem Own.apart {A B:Zb}{base:Nat}{v:Zc}{l:List Int}{T:Nat→Prop}(h:Own A base v l)(hT:Am T A B)(hx:∀x,v.ownBlock=some x→¬T x):Own B base v l:=by
 refine⟨h.1,?_⟩;rcases h.2 with h1|⟨g,cap,cur,h1,h2,h3,h4⟩
 ·exact .inl h1
 ·exact .inr ⟨g,cap,cur,h1,h2,(hT.block g (Za.1 h3).1 (hx g (by rw[h1];rfl))).trans h3,h4⟩
structure LG (b:Nat)(lv:Zc)(w:Zb)(d k:Nat)(v1 v2 v3:Zc)(bs:List Int)(es:List (Int×Int))(hs:List Int)(wr:Zb):Prop where
 lw:LW b lv w d wr
 res:wr.heap[w.heap.size]?=some (.cells #[.slice none 0 0,.slice none 0 0,.slice none 0 0,.slice none 0 0,.slice none 0 0] 26 (0,0))
 qx:wr.heap[w.heap.size+1]?=some (.cells #[v1,v2,v3,.slice none 0 0,.slice none 0 0] 26 (0,0))
 base:Own wr (w.heap.size+1+1) v1 bs
 Ag:Li wr (w.heap.size+1+1) v2 es 80
 hooks:Own wr (w.heap.size+1+1) v3 hs
 lens:bs.length=k∧es.length=k∧hs.length=k
 an4:k=0→v3=.slice none 0 0
 apart:∀x,v1.ownBlock=some x→¬v3.ownBlock=some x
 cb:∀x∈bs,20≤x∧x≤30
 ce:∀p∈es,-2≤p.1∧p.1≤p.2∧p.2≤5
 chk:∀x∈hs,0≤x∧x≤5
structure LT2 (b:Nat)(lv:Zc)(w:Zb)(d g n:Nat)(v1 v2 v3 v4:Zc)(bs:List Int)(es:List (Int×Int))(hs:List Int)(sl:List Ax)(wr:Zb):Prop where
 lw:LW b lv w d wr
 res:wr.heap[w.heap.size]?=some (.cells #[.slice none 0 0,.slice none 0 0,.slice none 0 0,.slice none 0 0,.slice none 0 0] 26 (0,0))
 qx:wr.heap[w.heap.size+1]?=some (.cells #[v1,v2,v3,v4,.slice none 0 0] 26 (0,0))
 base:Own wr (w.heap.size+1+1) v1 bs
 Ag:Li wr (w.heap.size+1+1) v2 es 80
 hooks:Own wr (w.heap.size+1+1) v3 hs
 row:En (w.heap.size+1+1) wr (w.heap.size+1+1) v4 sl
 up:∀i,i<sl.length→LD g n i (Aj sl i)∧∀x∈(Aj sl i).over,(i:Int)<x
theorem agq {r m:Nat}(hm:m≤5)(h:r<4):0≤nth [0,0,3,(m:Int)] r∧nth [0,0,3,(m:Int)] r≤5:=by
 have:r=0∨r=1∨r=2∨r=3:=by omega
 rcases this with rfl|rfl|rfl|rfl<;>simp[nth]<;>omega
theorem Nu {l:List Int}{i:Nat}(h:i<l.length):nth l i∈l:=Yh (Bo h)
theorem oO {n:Nat}{o:List Int}(h:o.Pairwise (· < ·))(hx:∀x∈o,0≤x∧x<(n:Int)):o.length≤n:=by
 have key:∀(l:List Int) (m:Int),l.Pairwise (· < ·)→(∀x∈l,m≤x∧x<(n:Int))→m≤n→(l.length:Int)≤n - m:=by
  intro l
  induction l with
  |nil=>intro m _ _ hm;simp;omega
  |cons y r ih=>
   intro m hp hm hmn;obtain⟨h1,h2⟩:=List.pairwise_cons.1 hp;have hy:=hm y (zF ..);have:=ih (y+1) h2 (fun x hx=>⟨by have:=h1 x hx;omega,(hm x (zr _ hx)).2⟩) (by omega);simp only[zK];omega
 have:=key o 0 h hx (by omega);omega
def VW (w:Zb)(b:Nat)(lv:Zc)(d s:Nat)(e:Ending)(w':Zb):Prop:=∃(c:Aw) (u1 u2 u3 u4 u5:Zc) (d':Nat),e=.returned (.agg #[u1,u2,u3,u4,u5])∧LW b lv w d' w'∧d'≤d+1000∧RC (Cy w.heap.size w') w' u1 u2 u3 u4 u5 c∧JM c∧c.Aa.length≤s
theorem c44 {Sn:Nat→Prop}{w:Zb}{lv:Zc}{nums:List Int}{b d s:Nat}(hn:SI Sn w lv nums)(GY:∀x,Sn x→x<w.heap.size∧x≠b)(hL:Ca w b lv d)(hd:d+1000<4611686018427387904)(hs:1≤s∧s≤3):
  Calls Lp 44 #[.pointer (some ⟨b,0,none⟩),.int .i64 s] w (VW w b lv d s):=by
 have I3:=DN;have vN:=Zh (fun W d lo hi hL hd h1 h2=>aga (W:=W) (d:=d) (lo:=lo) (hi:=hi) hn GY hL hd h1 h2);have kH:=Zh (fun W d n hL hd h2=>agb (W:=W) (d:=d) (n:=n) hn GY hL hd h2);have H99:=Zh (fun W d n hL hd h2=>agc (W:=W) (d:=d) (n:=n) hn GY hL hd h2);have H98:=Zh (fun W d s hL hd h1 h2=>agd (W:=W) (d:=d) (s:=s) hn GY hL hd h1 h2);have GN:=hL.lt;have JZ:=JL w (.cells #[.slice none 0 0,.slice none 0 0,.slice none 0 0,.slice none 0 0,.slice none 0 0] 26) (.cells #[.slice none 0 0,.slice none 0 0,.slice none 0 0,.slice none 0 0,.slice none 0 0] 26);have dU:=Bm (Bv w (.cells #[.slice none 0 0,.slice none 0 0,.slice none 0 0,.slice none 0 0,.slice none 0 0] 26)) (.cells #[.slice none 0 0,.slice none 0 0,.slice none 0 0,.slice none 0 0,.slice none 0 0] 26);have hLW:=((LW.refl hL).alloc (.cells #[.slice none 0 0,.slice none 0 0,.slice none 0 0,.slice none 0 0,.slice none 0 0] 26)).alloc (.cells #[.slice none 0 0,.slice none 0 0,.slice none 0 0,.slice none 0 0,.slice none 0 0] 26);go_enter Lp.func44,n44;go_wp2_with (go_at_call 61;refine(vN.out _ _ _ _ hLW (by omega) (by omega) (by omega)).mono ?_;rintro e W1 ⟨r0,d1,rfl,rq,Qe,tc,hd1⟩;have JZ:=Qe.at_ JZ (by omega);have dU:=Qe.at_ dU (by omega));have hG0:LG b lv w d1 0 (.slice none 0 0) (.slice none 0 0) (.slice none 0 0) [] [] [] W1:=⟨tc,dU,JZ,Yz _ _ _ _,Yz _ _ _ _,Yz _ _ _ _,⟨rfl,rfl,rfl⟩,fun _=>rfl,(fun x hx=>by cases hx),(fun x hx=>by cases hx),(fun x hx=>by cases hx),(fun x hx=>by cases hx)⟩;clear JZ dU hLW Qe tc;obtain⟨G,hGe⟩:∃G,G=1+r0:=⟨_,rfl⟩;have pM:1≤G∧G≤3:=by omega
 rw[show(1:Int)+(r0:Int)=(G:Int) by omega];clear hGe rq;go_loopg [6] G (fun gg i wr=>∃(k m dk:Nat) (v1 v2 v3:Zc) (bs:List Int) (es:List (Int×Int)) (hs:List Int),k+m=G∧gg=m∧i=.int .i64 m∧dk≤d1+5*k∧LG b lv w dk k v1 v2 v3 bs es hs wr)
 case atStart=>exact⟨0,G,d1,_,_,_,_,_,_,Ym _,rfl,rfl,Zj _,hG0⟩
 case round=>
  obtain⟨k,m,dk,v1,v2,v3,bs,es,DJ,hkm,hgm,rfl,ki,hG⟩:=hrel;obtain⟨a1,c1,rfl,_⟩:=hG.base.si.val;obtain⟨a2,c2,rfl,_⟩:=Jr hG.Ag;obtain⟨a3,c3,rfl,_⟩:=hG.hooks.si.val;by_cases Az:0<m
  ·obtain⟨m',rfl⟩:∃m',m=m'+1:=⟨m - 1,by omega⟩
   have hLx:=hG.lw;go_wp2_with (go_at_call 61;refine(vN.out _ _ _ _ hLx (by omega) (by omega) (by omega)).mono ?_;rintro e W2 ⟨r1,d2,rfl,Wc,Sg,Qh,hd2⟩);obtain⟨le,hle⟩:∃le:Int,le= -2+(r1:Int):=⟨_,rfl⟩;have auU: -2≤le∧le≤1:=by omega
   rw[←hle];clear hle Wc;have hwx:=hLx.Cd.size;have oP:=Sg.at_ hG.qx (by omega);have agr:=Sg.at_ hG.res (by omega);have ET:=hG.base.Cd Sg (by omega);have he2:=F2 hG.Ag Sg (by omega:b<w.heap.size+1+1);have hh2:=hG.hooks.Cd Sg (by omega);have jz:=Zh (zb hG.lens (zb hG.an4 (zb hG.apart (zb hG.cb (zb hG.ce hG.chk)))));have Wh:=hG.lens.1;have Me:=hG.lens.2.1;have QA:=hG.lens.2.2;have dW:=Zh (zb Wh (zb Me QA));clear hG Wh Me QA hLx Sg;obtain⟨K,K8⟩:∃K:Nat→Prop,K=fun x=>x=b∨w.heap.size+1<x:=⟨_,rfl⟩;have pW:K b:=by rw[K8];exact .inl rfl
   have fF:∀x,w.heap.size+1<x→K x:=fun x hx=>by rw[K8];exact .inr hx
   have gp:¬K (w.heap.size+1):=by rw[K8];intro x;omega
   have oJ:¬K w.heap.size:=by rw[K8];intro x;omega
   clear K8;have z0:=fun p:Tw K W2=>p.cell (ch (i:=0) oP (v:=.slice a1 bs.length c1) rfl) gp;have z1:=fun p:Tw K W2=>p.cell (ch (i:=1) oP (v:=.slice a2 es.length c2) rfl) gp;have z2:=fun p:Tw K W2=>p.cell (ch (i:=2) oP (v:=.slice a3 DJ.length c3) rfl) gp;have hqz:w.heap.size+1<W2.heap.size:=(Za.1 oP).1;refine Nh (S:=fun W=>∃p:Tw K W2,W=p.v) 31 [26,27,28,29,30] [(false,3),(false,4),(false,5),(true,25),(false,11),(false,12),(false,13),(false,14),(false,15),(false,20),(false,21),(false,22),(false,23),(false,24),(false,26),(false,27),(false,28),(false,29),(false,30)] [0,1,2,6,7,8,9,10,16,17,18,19] (by kernel_rfl) (fun _ _ d _ _ h=>by cases d<;>exact h) (by kernel_rfl) (BH (Am.later (Zi _ _).drew)) ?_;refine Bf _ _ (by kernel_rfl) ?_;simp only[zQ,zW,ZY,ZO,ZN]
   repeat (first|go_big_quiet_step (fail)|quiet_step (fail))
   refine Ye ?_;clear z0 z1 z2;change Jt _ _ _ _ _ _ _ _;obtain⟨V0,hV0⟩:∃V0,V0=W2.drew:=⟨_,rfl⟩;have vS:Zm W2.heap.size W2 V0:=by rw[hV0];exact(Zi _ _).drew
   rw[←hV0];clear hV0;have iU:Am K W2 V0:=Am.later vS;have hL0:=Qh.below vS;obtain⟨i3i,i3h,i30,i31,i32⟩:=YC Lu;obtain⟨i8i,i8h,i80,i81,i82⟩:=YC dv;refine Ni (f:=61) (args:= #[.pointer (some ⟨b,0,none⟩),.int .i64 20,.int .i64 30]) rfl rfl (by go_simp) ((vN.out V0 _ _ _ hL0 (by omega) (by omega) (by omega)).mono ?_);rintro e V1 ⟨r2,d3,rfl,PV,J0,Tn,hd3⟩;obtain⟨xb,hxb⟩:∃xb:Int,xb=20+(r2:Int):=⟨_,rfl⟩;have aaF:20≤xb∧xb≤30:=by omega
   rw[←hxb];clear hxb PV;have NC:=iU.trans (J0.Du pW);refine⟨_,rfl,.inr (BH NC),?_⟩;refine Ii (v:=.slice (some ⟨V1.heap.size,0,none⟩) 1 1) (w':=V1.alloc (.cells #[.int .i64 xb] 3)) rfl rfl (by go_simp) (.inr (BH (NC.pV (bA (Zi _ _))))) ?_;have El:=NC.size;have Vj:=(ET.later vS).Cd J0 (by omega);have he3:=F2 (H0 he2 vS) J0 (by omega:b<w.heap.size+1+1);have hh3:=(hh2.later vS).Cd J0 (by omega);have M_:k≤3:=by omega
   refine R8 rfl rfl ?_;refine Zav _ _ _ 22 rfl (w.heap.size+1+1) 3 i3i (.int .i64 0) 1 8 (CM ZaF) (D3 i3h) i30 i31 i32 rfl (by decide) _ bs.length (bs.map (ZT .i64)) rfl (Zac Vj _) ⟨V1.heap.size,0,none⟩ 1 1 [.int .i64 xb] rfl rfl (Ex _ _ _) (by simp[ZaL]) (by have:=dW.out.1;unfold maxLen;omega) (by have:=dW.out.1;omega) (by simp;omega) ?_;intro v1n V2 AY AG Fi;have FD:=Ns Vj;have I1:Am (fun x=>(Zy a1 bs.length c1).ownBlock=some x) V1 V2:=((Am.later (bA (Zi _ _))).mono fun _ x=>x).trans (Am.grown AG fun x hx=>hx);have Fa:=NC.trans (I1.mono fun x hx=>fF x (by have:=(FD x hx).1;omega));have QC:∀x,(Zy a1 bs.length c1).ownBlock=some x→w.heap.size≤x:=fun x hx=>by have:=(FD x hx).1;omega
   have pX:LW b lv w d3 V2:=⟨(Tn.alloc (.cells #[.int .i64 xb] 3)).Cd.grown AG QC,(Tn.alloc (.cells #[.int .i64 xb] 3)).FQ.of (AG.block b (Tn.alloc _).FQ.lt (fun e=>by have:=(FD b e.symm).1;omega))⟩;refine⟨.inr (BH Fa),?_⟩;have S8:Own V2 (w.heap.size+1+1) v1n (bs++ [xb]):=by
    unfold Own;rw[ZV,List.map_append];exact AY
   have he4:Li V2 (w.heap.size+1+1) (.slice a2 es.length c2) es 80:=ES he3 I1 (fun x cs hx e=>by
    obtain⟨_,cs',h2⟩:=FD x e;rw[hx]at h2;cases h2)
   have hh4:=hh3.apart I1 (fun x hx e=>jz.out.2.2.1 x e hx);have hap:∀x,v1n.ownBlock=some x→¬(Zy a3 DJ.length c3).ownBlock=some x:=by
    by_cases kA:k=0
    ·rw[jz.out.2.1 kA]
     intro x _ h;cases h
    ·refine UD S8 hh4 (by simp) (by have:=dW.out.2.2;omega) ?_
     have h1:20≤nth (bs++ [xb]) 0:=by
      have hm:nth (bs++ [xb]) 0∈bs++ [xb]:=Nu (by simp);rcases Zax.1 hm with h|h
      ·exact(jz.out.2.2.2.1 _ h).1
      ·rw[YJ.1 h];exact aaF.1
     have h2:=(jz.out.2.2.2.2.2 _ (Nu (l:=DJ) (i:=0) (by have:=dW.out.2.2;omega))).2;omega
   obtain⟨g1,q1,rfl⟩:=ownsRow_succ AY;clear AY AG Fi I1 FD QC Vj he3 hh3 ET he2 hh2 iU NC J0 Tn hL0 El;refine sj (v:=.pointer (some ⟨w.heap.size+1,0,none⟩)) (BH Fa) rfl rfl (fun w _=>by go_simp) ?_;refine Ni (f:=29) (args:= #[.pointer (some ⟨b,0,none⟩),.int .i64 4]) rfl rfl (by go_simp) ((kH.out V2 _ _ pX (by omega) (by omega)).mono ?_);rintro e V3 ⟨r4,d4,rfl,hr4,Tj,hL3,hd4⟩;have Su:=Fa.trans (Tj.Du pW);refine⟨_,rfl,.inr (BH Su),?_⟩;have vM:IntKind.i64.wrap (le+(r4:Int))=le+(r4:Int):=by rw[Y5];omega
   refine Ii (v:=.int .i64 (le+(r4:Int))) (w':=V3) rfl rfl (by go_simp) (.inr (BH Su)) ?_;obtain⟨mo,hmo⟩:∃mo:Int,mo=le+(r4:Int):=⟨_,rfl⟩;have auX:le≤mo∧mo≤5:=by omega
   rw[←hmo];clear hmo vM hr4;refine Ii (v:=.agg #[.int .i64 le,.int .i64 mo]) (w':=V3) rfl rfl (by go_simp) (.inr (BH Su)) ?_;refine Ii (v:=.slice (some ⟨V3.heap.size,0,none⟩) 1 1) (w':=V3.alloc (.cells #[.int .i64 le,.int .i64 mo] 80)) rfl rfl (by go_simp) (.inr (BH (Su.pV (bA (Zi _ _))))) ?_;have Tc:=Su.size;have uE:=S8.Cd Tj (by omega);have he5:=F2 he4 Tj (by omega:b<w.heap.size+1+1);have hh5:=hh4.Cd Tj (by omega);refine R8 rfl rfl ?_;refine Zav _ _ _ 23 rfl (w.heap.size+1+1) 80 i8i (.agg #[.int .i64 0,.int .i64 0]) 2 16 (CM Tryz.underlying23) (D3 i8h) i80 i81 i82 rfl (by decide) _ es.length (es.flatMap fun p=> [ZT .i64 p.1,.int .i64 p.2]) (by go_simp) (Zac he5 _) ⟨V3.heap.size,0,none⟩ 1 1 [.int .i64 le,.int .i64 mo] (by go_simp) rfl (K9 _ _ _) (by intro u hu;simp at hu;rcases hu with rfl|rfl<;>rfl) (by have:=dW.out.2.1;unfold maxLen;omega) (by have:=dW.out.2.1;omega) (by simp;omega) ?_;intro v2n V4 AY AG Fi;have FD:=Ns he5;have I1:Am (fun x=>(Zy a2 es.length c2).ownBlock=some x) V3 V4:=((Am.later (bA (Zi _ _))).mono fun _ x=>x).trans (Am.grown AG fun x hx=>hx);have hT4:=Su.trans (I1.mono fun x hx=>fF x (by have:=(FD x hx).1;omega));have QC:∀x,(Zy a2 es.length c2).ownBlock=some x→w.heap.size≤x:=fun x hx=>by have:=(FD x hx).1;omega
   have hL4:LW b lv w d4 V4:=⟨(hL3.alloc (.cells #[.int .i64 le,.int .i64 mo] 80)).Cd.grown AG QC,(hL3.alloc (.cells #[.int .i64 le,.int .i64 mo] 80)).FQ.of (AG.block b (hL3.alloc _).FQ.lt (fun e=>by have:=(FD b e.symm).1;omega))⟩;refine⟨.inr (BH hT4),?_⟩;have he6:Li V4 (w.heap.size+1+1) v2n (es++ [(le,mo)]) 80:=by
    unfold Li;rw[ZV,List.flatMap_append];exact AY
   have aaG:∀x cs,V3.heap[x]?=some (Obj.cells cs 3 (0,0))→¬(Zy a2 es.length c2).ownBlock=some x:=fun x cs hx e=>by
    obtain⟨_,cs',h2⟩:=FD x e;rw[hx]at h2;cases h2
   have bq:Own V4 (w.heap.size+1+1) (.slice (some ⟨g1,0,none⟩) (bs.length+1) q1) (bs++ [xb]):=ES uE I1 aaG;have hh6:Own V4 (w.heap.size+1+1) (.slice a3 DJ.length c3) DJ:=ES hh5 I1 aaG;obtain⟨g2,q2,rfl⟩:=ownsRow_succ AY;clear AY AG Fi I1 FD QC uE he5 hh5 S8 he4 hh4 Fa Su Tj hL3 pX Tc aaG;refine Ni (f:=29) (args:= #[.pointer (some ⟨b,0,none⟩),.int .i64 5]) rfl rfl (by go_simp) ((kH.out V4 _ _ hL4 (by omega) (by omega)).mono ?_);rintro e V5 ⟨r5,d5,rfl,gy,gC,vT,hd5⟩;have hT5:=hT4.trans (gC.Du pW);refine⟨_,rfl,.inr (BH hT5),?_⟩;have dS:=hT5.pV (bA (o:=.cells #[.int .i64 0,.int .i64 0,.int .i64 3,.int .i64 r5] 3) (Zi _ _));refine Ii (v:=.slice (some ⟨V5.heap.size,0,none⟩) 4 4) (w':=V5.alloc (.cells #[.int .i64 0,.int .i64 0,.int .i64 3,.int .i64 r5] 3)) rfl rfl (by go_simp) (.inr (BH dS)) ?_;refine Ni (f:=98) (args:= #[.pointer (some ⟨b,0,none⟩),.slice (some ⟨V5.heap.size,0,none⟩) 4 4]) rfl rfl (by go_simp) ((H98.out V5 _ [0,0,3,(r5:Int)] vT (by omega) (by simp) (by simp)).mono ?_);rintro e V6 ⟨r6,d6,rfl,hr6,gE,hL6,hd6⟩;obtain⟨y,hy,hy2⟩:∃y,y=nth [0,0,3,(r5:Int)] r6∧(0≤y∧y≤5):=⟨_,rfl,agq (by omega) hr6⟩;rw[←hy];clear hy;have hT6:=dS.trans (gE.Du pW);refine⟨_,rfl,.inr (BH hT6),?_⟩;refine Ii (v:=.slice (some ⟨V6.heap.size,0,none⟩) 1 1) (w':=V6.alloc (.cells #[.int .i64 y] 3)) rfl rfl (by go_simp) (.inr (BH (hT6.pV (bA (Zi _ _))))) ?_;have hz6:=hT6.size;have bz:Zm V5.heap.size V5 (V5.alloc (.cells #[.int .i64 0,.int .i64 0,.int .i64 3,.int .i64 r5] 3)):=bA (Zi _ _);have Wi:=((bq.Cd gC (by omega)).later bz).Cd gE (by omega);have he7:=F2 (H0 (F2 he6 gC (by omega:b<w.heap.size+1+1)) bz) gE (by omega:b<w.heap.size+1+1);have hh7:=((hh6.Cd gC (by omega)).later bz).Cd gE (by omega);refine R8 rfl rfl ?_;refine Zav _ _ _ 22 rfl (w.heap.size+1+1) 3 i3i (.int .i64 0) 1 8 (CM ZaF) (D3 i3h) i30 i31 i32 rfl (by decide) _ DJ.length (DJ.map (ZT .i64)) (by go_simp) (Zac hh7 _) ⟨V6.heap.size,0,none⟩ 1 1 [.int .i64 y] (by go_simp) rfl (Ex _ _ _) (by simp[ZaL]) (by have:=dW.out.2.2;unfold maxLen;omega) (by have:=dW.out.2.2;omega) (by simp;omega) ?_;intro v3n V7 AY AG Fi;have FD:=Ns hh7;have I1:Am (fun x=>(Zy a3 DJ.length c3).ownBlock=some x) V6 V7:=((Am.later (bA (Zi _ _))).mono fun _ x=>x).trans (Am.grown AG fun x hx=>hx);have hT7:=hT6.trans (I1.mono fun x hx=>fF x (by have:=(FD x hx).1;omega));have QC:∀x,(Zy a3 DJ.length c3).ownBlock=some x→w.heap.size≤x:=fun x hx=>by have:=(FD x hx).1;omega
   have hL7:LW b lv w d6 V7:=⟨(hL6.alloc (.cells #[.int .i64 y] 3)).Cd.grown AG QC,(hL6.alloc (.cells #[.int .i64 y] 3)).FQ.of (AG.block b (hL6.alloc _).FQ.lt (fun e=>by have:=(FD b e.symm).1;omega))⟩;refine⟨.inr (BH hT7),?_⟩;have hh8:Own V7 (w.heap.size+1+1) v3n (DJ++ [y]):=by
    unfold Own;rw[ZV,List.map_append];exact AY
   have hb8:=Wi.apart I1 (fun x hx e=>hap x hx e);have he8:Li V7 (w.heap.size+1+1) (.slice (some ⟨g2,0,none⟩) (es.length+1) q2) (es++ [(le,mo)]) 80:=ES he7 I1 (fun x cs hx e=>by
    obtain⟨_,cs',h2⟩:=FD x e;rw[hx]at h2;cases h2)
   obtain⟨g3,q3,rfl⟩:=ownsRow_succ AY;have agu:∀x,(Zy (some ⟨g1,0,none⟩) (bs.length+1) q1).ownBlock=some x→¬(Zy (some ⟨g3,0,none⟩) (DJ.length+1) q3).ownBlock=some x:=by
    refine UD hb8 hh8 (by simp) (by simp) ?_;have h1:20≤nth (bs++ [xb]) 0:=by
     have hm:nth (bs++ [xb]) 0∈bs++ [xb]:=Nu (by simp);rcases Zax.1 hm with h|h
     ·exact(jz.out.2.2.2.1 _ h).1
     ·rw[YJ.1 h];exact aaF.1
    have h2:nth (DJ++ [y]) 0≤5:=by
     have hm:nth (DJ++ [y]) 0∈DJ++ [y]:=Nu (by simp);rcases Zax.1 hm with h|h
     ·exact(jz.out.2.2.2.2.2 _ h).2
     ·rw[YJ.1 h];exact hy2.2
    omega
   clear AY AG Fi I1 FD QC Wi he7 hh7 bq he6 hh6 hT4 hT5 hT6 dS gC gE hL4 vT hL6 hz6 hap bz;have vU:=(hT7.block _ hqz gp).trans oP;have hr7:=(hT7.block _ (Za.1 agr).1 oJ).trans agr;have f0:=cf (i:=0) vU;have f1:=cf (i:=1) vU;have f2:=cf (i:=2) vU;have e0:=ch (i:=0) vU (v:=.slice a1 bs.length c1) rfl;have e1:=ch (i:=1) vU (v:=.slice a2 es.length c2) rfl;have e2:=ch (i:=2) vU (v:=.slice a3 DJ.length c3) rfl;refine Nj (w':=V7.setCell ⟨w.heap.size+1,0,none⟩ (.slice (some ⟨g1,0,none⟩) (bs.length+1) q1)) rfl rfl (by go_simp) (.inl rfl) ?_;refine Ii (v:=.pointer (some ⟨w.heap.size+1,1,none⟩)) (w':=V7.setCell ⟨w.heap.size+1,0,none⟩ (.slice (some ⟨g1,0,none⟩) (bs.length+1) q1)) rfl rfl (by go_simp) (.inl rfl) ?_;refine Nj (w':=(V7.setCell ⟨w.heap.size+1,0,none⟩ (.slice (some ⟨g1,0,none⟩) (bs.length+1) q1)).setCell ⟨w.heap.size+1,1,none⟩ (.slice (some ⟨g2,0,none⟩) (es.length+1) q2)) rfl rfl (by go_simp) (.inl rfl) ?_;refine Ii (v:=.pointer (some ⟨w.heap.size+1,2,none⟩)) (w':=(V7.setCell ⟨w.heap.size+1,0,none⟩ (.slice (some ⟨g1,0,none⟩) (bs.length+1) q1)).setCell ⟨w.heap.size+1,1,none⟩ (.slice (some ⟨g2,0,none⟩) (es.length+1) q2)) rfl rfl (by go_simp) (.inl rfl) ?_;obtain⟨V8,hV8⟩:∃V8,V8=((V7.setCell ⟨w.heap.size+1,0,none⟩ (.slice (some ⟨g1,0,none⟩) (bs.length+1) q1)).setCell ⟨w.heap.size+1,1,none⟩ (.slice (some ⟨g2,0,none⟩) (es.length+1) q2)).setCell ⟨w.heap.size+1,2,none⟩ (.slice (some ⟨g3,0,none⟩) (DJ.length+1) q3):=⟨_,rfl⟩;refine Nj (w':=V8) rfl rfl (by rw[hV8];go_simp) (.inl rfl) ?_;have hG8:LG b lv w d6 (k+1) (.slice (some ⟨g1,0,none⟩) (bs.length+1) q1) (.slice (some ⟨g2,0,none⟩) (es.length+1) q2) (.slice (some ⟨g3,0,none⟩) (DJ.length+1) q3) (bs++ [xb]) (es++ [(le,mo)]) (DJ++ [y]) V8:=by
    have hT8:Am (fun x=>x=w.heap.size+1) V7 V8:=by rw[hV8];exact(Am.refl (fun x=>x=w.heap.size+1) V7).DG.DG.DG
    have hn8:∀x,w.heap.size+1+1≤x→¬x=w.heap.size+1:=fun x h1 h2=>by omega
    obtain⟨l1,l2,l3⟩:=dW.out;refine⟨by rw[hV8];exact((hL7.DS GN (by omega)).DS GN (by omega)).DS GN (by omega),(hT8.block _ (Za.1 hr7).1 (by omega)).trans hr7,by rw[hV8];exact A5 (A5 (A5 vU _) _) _,DF hT8 hn8 hb8,DF hT8 hn8 he8,DF hT8 hn8 hh8,⟨by simp[l1],by simp[l2],by simp[l3]⟩,fun h=>by omega,agu,fun x hx=>?_,fun p hp=>?_,fun x hx=>?_⟩
    ·rcases Zax.1 hx with h|h
     ·exact jz.out.2.2.2.1 _ h
     ·rw[YJ.1 h];exact aaF
    ·rcases Zax.1 hp with h|h
     ·exact jz.out.2.2.2.2.1 _ h
     ·rw[YJ.1 h];simp only;omega
    ·rcases Zax.1 hx with h|h
     ·exact jz.out.2.2.2.2.2 _ h
     ·rw[YJ.1 h];exact hy2
   have HG8:=Zh hG8;clear hG8 hV8 vU hr7 f0 f1 f2 e0 e1 e2 hL7 hT7 hb8 he8 hh8 agu;unfold Jt
   go_simp
   go_wp2;go_roundg m'
   case rel=>exact⟨k+1,m',d6,_,_,_,_,_,_,by omega,rfl,by go_num,by omega,HG8.out⟩
   case measure=>omega
  ·have hm0:m=0:=by omega
   subst hm0;have hkG:k=G:=by omega
   have hLx:=hG.lw;obtain⟨Wh,Me,QA⟩:=hG.lens;go_wp2_with (go_at_call 61;refine(vN.out _ _ _ _ hLx (by omega) (by omega) (by omega)).mono ?_;rintro e W2 ⟨rn,dn,rfl,hrn,Sg,Qh,hdn⟩);obtain⟨n,BI⟩:∃n,n=1+rn:=⟨_,rfl⟩;have sH:1≤n∧n≤s:=by omega
   rw[show(1:Int)+(rn:Int)=(n:Int) by omega];clear BI hrn;have HB:=Zh (zb hG.cb (zb hG.ce (zb hG.chk (zb Wh (zb Me QA)))));have iU:LT2 b lv w dn bs.length n (.slice a1 bs.length c1) (.slice a2 es.length c2) (.slice a3 DJ.length c3) (.slice none 0 0) bs es DJ [] W2:=
    ⟨Qh,Sg.at_ hG.res (by omega),Sg.at_ hG.qx (by omega),hG.base.Cd Sg (by omega),F2 hG.Ag Sg (by omega),hG.hooks.Cd Sg (by omega),⟨[],Yz _ _ _ _,fun i x hx=>by cases hx⟩,fun i hi=>absurd hi (by simp)⟩
   have nf:1≤bs.length∧bs.length≤3:=by omega
   have av3:dn≤d+50:=by omega
   clear hG hLx Sg Qh Wh Me QA;go_loopg [9] n (fun gg i wr=>∃(k dk:Nat) (v4:Zc) (sl:List Ax),k≤n∧gg=n - k∧i=.int .i64 k∧dk≤dn+20*k∧sl.length=k∧LT2 b lv w dk bs.length n (.slice a1 bs.length c1) (.slice a2 es.length c2) (.slice a3 DJ.length c3) v4 bs es DJ sl wr)
   case atStart=>exact⟨0,dn,_,[],Zt _,rfl,rfl,Zj _,rfl,iU⟩
   case round=>
    obtain⟨k,dk,v4,sl,hk,rfl,rfl,ki,Pt,hT⟩:=hrel;obtain⟨va,vc,rfl,_⟩:=hT.row.val;by_cases Az:k<n
    ·have fY:=Zh Pt
     clear Pt;obtain⟨K,K8⟩:∃K:Nat→Prop,K=fun x=>x=b∨w.heap.size+1<x:=⟨_,rfl⟩;have pW:K b:=by rw[K8];exact .inl rfl
     have fF:∀x,w.heap.size+1<x→K x:=fun x hx=>by rw[K8];exact .inr hx
     have gp:¬K (w.heap.size+1):=by rw[K8];intro x;omega
     have oJ:¬K w.heap.size:=by rw[K8];intro x;omega
     clear K8;have z0:=fun p:Tw K wr=>p.cell (ch (i:=0) hT.qx (v:=.slice a1 bs.length c1) rfl) gp;have z3:=fun p:Tw K wr=>p.cell (ch (i:=3) hT.qx (v:=.slice va sl.length vc) rfl) gp;have hqz:w.heap.size+1<wr.heap.size:=(Za.1 hT.qx).1;have Tb:(k:Int)<(n:Int):=by omega
     have jT:=hT.lw;go_wp2;refine Nh (S:=fun W=>∃p:Tw K wr,W=p.v) 13 [12] [(false,8),(false,9),(false,10),(false,11),(false,12)] [0,1,2,3,4,5,6,7] (by kernel_rfl) (fun _ _ d _ _ h=>by cases d<;>exact h) (by kernel_rfl) (BH (Am.later (Zi _ _).drew)) ?_;refine Kz [0,1,2,3,4] [5,6,7] _ ?_;refine Bf _ _ (by kernel_rfl) ?_;simp only[zQ,zW,ZY,ZO,ZN]
     repeat (first|go_big_quiet_step (fail)|quiet_step (fail))
     refine Ye ?_;clear z0 z3;refine Cr (v:=.int .i64 bs.length) rfl rfl (fun w _=>by go_simp) ?_;refine Cr (v:=.int .i64 n) rfl rfl (fun w _=>by go_simp) ?_;refine Cr (v:=.int .i64 k) rfl rfl (fun w _=>by go_simp) ?_;change Jt _ _ _ _ _ _ _ _;obtain⟨V,hV⟩:∃V,V=wr.drew:=⟨_,rfl⟩;have gF:Zm wr.heap.size wr V:=by rw[hV];exact(Zi _ _).drew
     rw[←hV];clear hV;have vP:=jT.below gF;have hTV:Am K wr V:=Am.later gF;refine Ni (f:=110) (args:= #[.pointer (some ⟨b,0,none⟩),.int .i64 bs.length,.int .i64 n,.int .i64 k]) rfl rfl (by go_simp) ((amO (g:=bs.length) (n:=n) (o:=k) (hn.Cd vP.Cd GY) (KL vP.Cd GY) vP.FQ (by omega) nf Az (by omega)).mono ?_);rintro e V1 ⟨sm,v2,v3,d',rfl,hLm,bw,UY,uo,vV,vr⟩;have hU:=hLm.Cd;have Tn:LW b lv w d' V1:=vP.step hU hLm.FQ;have NC:=hTV.trans (hU.Du pW);obtain⟨p2,t2,rfl,_⟩:=UY.val;obtain⟨p3,t3,rfl,_⟩:=uo.val;refine⟨_,rfl,.inr (BH NC),?_⟩;obtain⟨V2,eO⟩:∃V2,V2=V1.alloc (.cells #[.int .i64 sm.low,.int .i64 sm.high,.slice p2 sm.Ak.length t2,.slice p3 sm.over.length t3,.int .i64 sm.left] 62):=⟨_,rfl⟩;have Bh:Zm V1.heap.size V1 V2:=by rw[eO];exact bA (Zi _ _)
     have Fa:=NC.pV Bh;refine Ii (v:=.slice (some ⟨V1.heap.size,0,none⟩) 1 1) (w':=V2) rfl rfl (by rw[eO];go_simp) (.inr (BH Fa)) ?_;have EN:=Fa.size;obtain⟨vals,AY,GF⟩:=hT.row;have gG:=H0 (F2 (H0 AY gF) hU (by omega:b<w.heap.size+1+1)) Bh;obtain⟨i6i,i6h,i60,i61,i62⟩:=YC dy;refine R8 rfl rfl ?_;refine Zav _ _ _ 24 rfl (w.heap.size+1+1) 62 i6i (.agg #[.int .i64 0,.int .i64 0,.slice none 0 0,.slice none 0 0,.int .i64 0]) 5 72 (CM Tryz.underlying24) (D3 i6h) i60 i61 i62 rfl (by decide) _ sl.length vals (by go_simp) gG ⟨V1.heap.size,0,none⟩ 1 1 [.int .i64 sm.low,.int .i64 sm.high,.slice p2 sm.Ak.length t2,.slice p3 sm.over.length t3,.int .i64 sm.left] (by go_simp) rfl (by rw[eO];exact K9 _ _ _) (by intro u hu;simp at hu;rcases hu with rfl|rfl|rfl|rfl|rfl<;>rfl) (by have:=fY.out;unfold maxLen;omega) (by have:=fY.out;omega) (by omega) ?_;intro v4n V3 Cx AG Fi;have FD:=Ns gG;have I1:Am (fun x=>(Zy va sl.length vc).ownBlock=some x) V2 V3:=Am.grown AG fun x hx=>hx;have Su:=Fa.trans (I1.mono fun x hx=>fF x (by have:=(FD x hx).1;omega));refine⟨.inr (BH Su),?_⟩;obtain⟨g4,q4,rfl⟩:=ownsRow_succ Cx;have I7:=(Su.block _ hqz gp).trans hT.qx;have f3:=cf (i:=3) I7;have e3:=ch (i:=3) I7 (v:=.slice va sl.length vc) rfl;refine Ii (v:=.pointer (some ⟨w.heap.size+1,3,none⟩)) (w':=V3) rfl rfl (by go_simp) (.inr (BH Su)) ?_;obtain⟨V4,Vx⟩:∃V4,V4=V3.setCell ⟨w.heap.size+1,3,none⟩ (.slice (some ⟨g4,0,none⟩) (sl.length+1) q4):=⟨_,rfl⟩;refine Nj (w':=V4) rfl rfl (by rw[Vx];go_simp) (.inl rfl) ?_;have aW:∀ {A:Zb} {e:Zs} (he:e≠62) (hA:∀g cs,V2.heap[g]?=some (Obj.cells cs 62 (0,0))→A.heap[g]?=some (Obj.cells cs 62 (0,0))) x cs,A.heap[x]?=some (Obj.cells cs e (0,0))→¬(Zy va sl.length vc).ownBlock=some x:=fun he hA x cs hx e0=>by
      obtain⟨_,cs',h2⟩:=FD x e0;rw[hA x cs' h2]at hx;cases hx;exact he rfl
     have Sz:Am (fun x=>x=w.heap.size+1) V3 V4:=by rw[Vx];exact(Am.refl (fun x=>x=w.heap.size+1) V3).DG
     have hn8:∀x,w.heap.size+1+1≤x→¬x=w.heap.size+1:=fun x h1 h2=>by omega
     have eX:Own V4 (w.heap.size+1+1) (.slice a1 bs.length c1) bs:=DF Sz hn8 (ES ((((hT.base.later gF).Cd hU (by omega)).later Bh):Own V2 _ _ _) I1 (aW (by decide) fun _ _ h=>h));have ax:Own V4 (w.heap.size+1+1) (.slice a3 DJ.length c3) DJ:=DF Sz hn8 (ES ((((hT.hooks.later gF).Cd hU (by omega)).later Bh):Own V2 _ _ _) I1 (aW (by decide) fun _ _ h=>h));have vW:Li V4 (w.heap.size+1+1) (.slice a2 es.length c2) es 80:=DF Sz hn8 (ES (H0 (F2 (H0 hT.Ag gF) hU (by omega:b<w.heap.size+1+1)) Bh) I1 (aW (by decide) fun _ _ h=>h));have aaJ:∀x,TT (w.heap.size+1+1) V2 x→¬(Zy va sl.length vc).ownBlock=some x:=fun x hx e0=>by
      obtain⟨_,cs',h2⟩:=FD x e0;exact TT.not hx h2 ⟨by decide,by decide,by decide⟩
     have agw:∀x,TT (w.heap.size+1+1) V3 x→¬x=w.heap.size+1:=fun x hx e0=>by have:=hx.1;omega
     have vX:En (w.heap.size+1+1) V4 (w.heap.size+1+1) (.slice (some ⟨g4,0,none⟩) (sl.length+1) q4) (sl++ [sm]):=by
      have hTb:Am (fun x=>x=b) wr V2:=((Am.later gF).mono fun _ x=>x).trans ((hU.Du (K:=fun x=>x=b) rfl).trans ((Am.later Bh).mono fun _ x=>x));have ET:∀x,TT (w.heap.size+1+1) wr x→¬x=b:=fun x hx e0=>by have:=hx.1;omega
      have Bv:Rs (TT (w.heap.size+1+1) V2) V2 [.int .i64 sm.low,.int .i64 sm.high,.slice p2 sm.Ak.length t2,.slice p3 sm.over.length t3,.int .i64 sm.left] sm:=⟨_,_,rfl,VT (Mt UY Bh) (by have:=gF.size;omega),Nr (Ea uo Bh) (by have:=gF.size;omega)⟩;have h3:En (w.heap.size+1+1) V3 (w.heap.size+1+1) (.slice (some ⟨g4,0,none⟩) (sl.length+1) q4) (sl++ [sm]):=En.snoc (fun i x hi=>vL (vL (GF i x hi) hTb ET) I1 aaJ) (by have:=gG.1;exact this) rfl (vL Bv I1 aaJ) Cx;refine h3.Du Sz agw (fun g hg e0=>?_);have:=(h3.own g hg).1;omega
     have hL4:LW b lv w d' V4:=by
      rw[Vx];exact(LW.DS ⟨(Tn.below Bh).Cd.grown AG (fun x hx=>by have:=(FD x hx).1;omega),(Tn.below Bh).FQ.of (AG.block b (Tn.below Bh).FQ.lt (fun e0=>by have:=(FD b e0.symm).1;omega))⟩ GN (by omega))
     have hT4:LT2 b lv w d' bs.length n (.slice a1 bs.length c1) (.slice a2 es.length c2) (.slice a3 DJ.length c3) (.slice (some ⟨g4,0,none⟩) (sl.length+1) q4) bs es DJ (sl++ [sm]) V4:=
      ⟨hL4,(Sz.block _ (by have:=(Za.1 hT.res).1;have:=Su.size;omega) (by omega)).trans ((Su.block _ (Za.1 hT.res).1 oJ).trans hT.res),by rw[Vx];exact A5 I7 _,eX,vW,ax,vX,s9 hT.up (by rw[fY.out];exact vV) (by rw[fY.out];exact vr)⟩
     have HT4:=Zh hT4;clear hT4 hT hL4 vX eX ax vW Sz Vx I7 f3 e3 I1 Su Fa NC hTV AY gG Cx GF AG Fi FD eO Bh hLm hU Tn vP gF UY uo aW aaJ agw vV vr jT;unfold Jt
     go_simp
     go_wp2;go_roundg (n - (k+1))
     case rel=>exact⟨k+1,d',_,sl++ [sm],Az,rfl,by go_num,by omega,by have:=fY.out;simp;omega,HT4.out⟩
     case measure=>omega
    ·have Wk:k=n:=by omega
     subst Wk;obtain⟨c0,Qa⟩:∃c0:Aw,c0=⟨bs,es,DJ,sl,[]⟩:=⟨_,rfl⟩;have hCT:CT (w.heap.size+1+1) wr (.slice a1 bs.length c1) (.slice a2 es.length c2) (.slice a3 DJ.length c3) (.slice va sl.length vc) (.slice none 0 0) c0:=by
      rw[Qa];exact⟨hT.base.tt,hT.Ag.tt (.inr (.inr rfl)),hT.hooks.tt,⟨none,0,rfl,Zj _,Zt _,fun i x hx=>by cases hx⟩,hT.row⟩
     have Hq:=hT.qx;have JZ:=hT.res;have jT:=hT.lw;obtain⟨kb,ke,kh,l1,l2,l3⟩:=HB.out;have HC:c0.base=bs∧c0.Ag=es∧c0.hooks=DJ∧c0.Aa=sl∧c0.now=[]:=by rw[Qa];exact⟨rfl,rfl,rfl,rfl,rfl⟩
     have vr:Jz bs.length sl:=fun i hi=>by rw[Pt];exact hT.up i hi
     have HUP:=Zh vr;have SC:=Zh HC;have fY:=Zh Pt;have vY:=Zh (zb l1 (zb l2 l3));clear hT Qa vr HC Pt l1 l2 l3 kb ke kh;have hGG:G≤3:=pM.2;have aaK:=Zh (fun(W:Zb) (hR:RC (Cy (w.heap.size+1+1) W) W (.slice a1 bs.length c1) (.slice a2 es.length c2) (.slice a3 DJ.length c3) (.slice va sl.length vc) (.slice none 0 0) c0)=>amH hR (fun b hb=>hb.2) SC.out.2.2.2.2 (by rw[SC.out.1];omega) (by rw[SC.out.2.1];have:=vY.out;omega) (by rw[SC.out.2.2.1];have:=vY.out;omega) (by rw[SC.out.2.2.2.1];have:=fY.out;omega) (fun i hi=>by
      rw[SC.out.2.2.2.1]at hi⊢;have hm:=(HUP.out i hi).1;exact⟨by have:=hm.few;omega,by
       have h1:=oO hm.rising (fun x hx=>by have:=hm.over x hx;exact⟨this.1,this.2.1⟩);have:=fY.out;omega⟩) (fun i hi x hx=>by
      rw[SC.out.2.2.2.1]at hi hx;have:=(HUP.out i hi).1.over x hx;have:=fY.out;omega))
     have Gm:(OI c0).base.length=bs.length:=by rw[show(OI c0).base=c0.base from rfl,SC.out.1]
     have hme:(OI c0).Ag.length=es.length:=by rw[show(OI c0).Ag=c0.Ag from rfl,SC.out.2.1]
     have hmh:(OI c0).hooks.length=DJ.length:=by rw[show(OI c0).hooks=c0.hooks from rfl,SC.out.2.2.1]
     have tL:(OI c0).Aa.length=sl.length:=by rw[show(OI c0).Aa=OH c0.Aa from rfl,Gl,SC.out.2.2.2.1]
     have hmn:(OI c0).now.length=0:=by rw[show(OI c0).now=c0.now from rfl,SC.out.2.2.2.2];rfl
     go_wp2_with (first|(go_at_call 99;refine(H99.out _ _ _ jT (by omega) (by omega)).mono ?_;rintro e W5 ⟨rb,d5,rfl,gC,vT,hd5⟩;have jw:=gC.at_ Hq (by omega);have gy:=gC.at_ JZ (by omega);have hC5:=hCT.Du (gC.Du (K:=fun x=>x=b) rfl) (fun x hx e=>by have:=hx.1;omega) (fun g hg e=>by have:=(hCT.row.own g hg).1;omega);have s0:=ch (i:=0) jw rfl;have s1:=ch (i:=1) jw rfl;have s2:=ch (i:=2) jw rfl;have s3:=ch (i:=3) jw rfl;have s4:=ch (i:=4) jw rfl;have pT:=vT.Cd.size)|(go_at_call 111;refine(aaK.out _ hC5.rc).mono ?_;rintro e W6 ⟨u1,u2,u3,u4,u5,rfl,DQ,pZ⟩;obtain⟨x1,y1,rfl,_⟩:=pZ.base.val;obtain⟨x2,y2,rfl,_⟩:=pZ.Ag.val;obtain⟨x3,y3,rfl,_⟩:=pZ.hooks.val;obtain⟨x4,y4,rfl,_⟩:=pZ.row.val;obtain⟨x5,y5,rfl,_⟩:=pZ.now.val;rw[Gm,hme,hmh,tL,hmn]at pZ⊢;have fW:=(DQ.block _ (Za.1 jw).1).trans jw;have hr6:=(DQ.block _ (Za.1 gy).1).trans gy;have e0:=ch (i:=0) fW rfl;have e1:=ch (i:=1) fW rfl;have e2:=ch (i:=2) fW rfl;have e3:=ch (i:=3) fW rfl;have e4:=ch (i:=4) fW rfl;have f0:=cf (i:=0) fW;have f1:=cf (i:=1) fW;have f2:=cf (i:=2) fW;have f3:=cf (i:=3) fW;have f4:=cf (i:=4) fW))
     ·have anf:=pZ
      obtain⟨X,jW⟩:∃X,X=((((W6.setCell ⟨w.heap.size+1,0,none⟩ (.slice x1 bs.length y1)).setCell ⟨w.heap.size+1,1,none⟩ (.slice x2 es.length y2)).setCell ⟨w.heap.size+1,2,none⟩ (.slice x3 DJ.length y3)).setCell ⟨w.heap.size+1,3,none⟩ (.slice x4 sl.length y4)).setCell ⟨w.heap.size+1,4,none⟩ (.slice x5 0 y5):=⟨_,rfl⟩;have OD:Am (fun x=>x=w.heap.size+1) W6 X:=by rw[jW];exact(Am.refl (fun x=>x=w.heap.size+1) W6).DG.DG.DG.DG.DG
      have vO:X.heap[w.heap.size+1]?=some (.cells #[.slice x1 bs.length y1,.slice x2 es.length y2,.slice x3 DJ.length y3,.slice x4 sl.length y4,.slice x5 0 y5] 26 (0,0)):=by rw[jW];exact A5 (A5 (A5 (A5 (A5 fW _) _) _) _) _
      have hrX:=(OD.block _ (Za.1 hr6).1 (by omega)).trans hr6;have oQ:LW b lv w d5 X:=by rw[jW];exact((((((vT.below DQ).DS GN (by omega)).DS GN (by omega)).DS GN (by omega)).DS GN (by omega)).DS GN (by omega))
      have av9:=(Za.1 jw).1;have vZ:=pZ.Du OD (fun x hx e=>by have:=hx.1;omega) (fun g hg e=>by have:=(pZ.row.own g hg).1;omega);obtain⟨cX,hcX⟩:∃cX,cX=OI c0:=⟨_,rfl⟩;obtain⟨mX,hmX⟩:∃mX,mX=W5.heap.size:=⟨_,rfl⟩;have anh:w.heap.size+1+1≤mX:=by omega
      have HQ:cX.base=bs∧cX.Ag=es∧cX.hooks=DJ∧cX.now=[]∧cX.Aa.length=k∧(Jz bs.length cX.Aa∨FO bs.length cX.Aa):=by
       rw[hcX];refine⟨SC.out.1,SC.out.2.1,SC.out.2.2.1,SC.out.2.2.2.2,by rw[tL];exact fY.out,.inr ?_⟩;show FO bs.length (OH c0.Aa);rw[SC.out.2.2.2.1];exact oM HUP.out
      rw[←hcX, ←hmX]at vZ;rw[←jW];clear jW OD pZ anf fW hr6 DQ hcX hmX e0 e1 e2 e3 e4 f0 f1 f2 f3 f4;clear jw gy vT hC5 gC hCT Hq JZ jT s0 s1 s2 s3 s4 aaK;have HQ':=Zh HQ;have M_:k≤3:=by omega
      have B3:∀i,i<cX.Aa.length→LD bs.length k i (Aj cX.Aa i):=fun i hi=>by
       rcases HQ.2.2.2.2.2 with h|h
       ·have:=(h i hi).1;rwa[HQ.2.2.2.2.1]at this
       ·have:=(h i hi).1;rwa[HQ.2.2.2.2.1]at this
      have hqk:=HQ.2.2.2.2.1;refine(c30 (S:=Cy mX X) vZ.rc (fun x hx=>⟨hx.2,by have:=hx.1;omega⟩) (hn.Cd oQ.Cd GY) (KL oQ.Cd GY) oQ.FQ (by omega) (by omega) (fun i hi=>by have:=(B3 i hi).step;omega)).mono ?_;rintro e Y ⟨vn,ln,dn2,rfl,oR,vQ,hdY,hsY,hlY,hbY⟩;obtain⟨pn,qn,rfl,_⟩:=hsY.val;have bB:=oR.at_ vO (by omega);have Tr:=oR.at_ hrX (by omega);have s0:=ch (i:=0) bB rfl;have s1:=ch (i:=1) bB rfl;have s2:=ch (i:=2) bB rfl;have s3:=ch (i:=3) bB rfl;have s4:=ch (i:=4) bB rfl;have f4:=cf (i:=4) bB;have r0:=ch (i:=0) Tr (v:=.slice none 0 0) rfl;have r1:=ch (i:=1) Tr (v:=.slice none 0 0) rfl;have r2:=ch (i:=2) Tr (v:=.slice none 0 0) rfl;have r3:=ch (i:=3) Tr (v:=.slice none 0 0) rfl;have r4:=ch (i:=4) Tr (v:=.slice none 0 0) rfl;have g0:=cf (i:=0) Tr;have g1:=cf (i:=1) Tr;have g2:=cf (i:=2) Tr;have g3:=cf (i:=3) Tr;have g4:=cf (i:=4) Tr;have hzX:=oQ.Cd.size;have hzY:=oR.size;have anj:=(Za.1 bB).1;have ank:=(Za.1 vO).1;have dW:=Zh hlY;have HBY:=Zh hbY;have v_:=Zh B3;clear hlY hbY B3 HQ hqk;dsimp only;go_wp2;refine ZX (v:=.agg #[.slice x1 bs.length y1,.slice x2 es.length y2,.slice x3 DJ.length y3,.slice x4 sl.length y4,.slice pn ln.length qn]) (by rw[A3 rfl];go_simp) rfl ?_;have key:∀Z,LW b lv w dn2 Z→Am (fun x=>x=w.heap.size∨x=w.heap.size+1) Y Z→VW w b lv d s (.returned (.agg #[.slice x1 bs.length y1,.slice x2 es.length y2,.slice x3 DJ.length y3,.slice x4 sl.length y4,.slice pn ln.length qn])) Z:=fun Z hLZ pY=>by
       obtain⟨q1,q2,q3,q4,q5,q6⟩:=HQ'.out;have rI:CC (Cy mX X) X Y:=oR.same fun x hx e=>by have:=hx.1;omega
       have U2:CC (Cy mX X) Y Z:=pY.same fun x hx e=>by have:=hx.1;rcases e with e|e<;>omega
       have hR:=(vZ.rc.Au rI).Au U2;have hzZ:=pY.size;have hN:∀x,Cy mX X x→Cy w.heap.size Z x:=fun x hx=>⟨by have:=hx.1;omega,by have:=hx.2;omega⟩;have th:=hR.imp hN;have hsZ:SI (Cy w.heap.size Z) Z (.slice pn ln.length qn) ln:=Sl.imp (hsY.Au (pY.same fun x hx e=>by have:=hx.1;rcases e with e|e<;>omega)) (fun x hx=>⟨by have:=hx.1;omega,by have:=hx.2;omega⟩) fun _ _ x=>x;obtain⟨kb,ke,kh,_⟩:=HB.out;refine⟨{cX with now:=ln},_,_,_,_,_,dn2,rfl,hLZ,by omega,⟨th.base,th.Ag,th.hooks,th.Aa,hsZ⟩,?_,by show cX.Aa.length≤s;omega⟩;have Wh:=vY.out;refine gw (by show 1≤cX.base.length∧_;rw[q1];exact nf) (by show∀x∈cX.base,_;rw[q1];exact kb) (by show cX.Ag.length=cX.base.length;rw[q1,q2];omega) (by show∀p∈cX.Ag,_;rw[q2];exact ke) (by show cX.hooks.length=cX.base.length;rw[q1,q3];omega) (by show∀x∈cX.hooks,_;rw[q3];exact kh) (by show 1≤cX.Aa.length∧cX.Aa.length≤3;omega) (by show Jz cX.base.length cX.Aa∨FO cX.base.length cX.Aa;rw[q1];exact q6) ⟨dW.out,fun i hi=>?_⟩;have Df:i<cX.Aa.length:=by rw[←dW.out];exact hi
       exact⟨(HBY.out i Df).1,(HBY.out i Df).2 (v_.out i Df).step.2.1⟩
      refine key _ ?_ ?_
      ·exact(((((oQ.step oR vQ).DS GN (by omega)).DS GN (Zj _)).DS GN (Zj _)).DS GN (Zj _)).DS GN (Zj _)|>.DS GN (Zj _)
      ·refine Am.set (Am.set (Am.set (Am.set (Am.set (Am.set (Am.refl _ _) (.inr rfl)) (.inl rfl)) (.inl rfl)) (.inl rfl)) (.inl rfl)) (.inl rfl)
     ·obtain⟨X,jW⟩:∃X,X=W5:=⟨_,rfl⟩
      subst jW;have vO:=jw;have hrX:=gy;have oQ:=vT;have vZ:=hC5;obtain⟨cX,hcX⟩:∃cX,cX=c0:=⟨_,rfl⟩;have HQ:cX.base=bs∧cX.Ag=es∧cX.hooks=DJ∧cX.now=[]∧cX.Aa.length=k∧(Jz bs.length cX.Aa∨FO bs.length cX.Aa):=by
       rw[hcX];exact⟨SC.out.1,SC.out.2.1,SC.out.2.2.1,SC.out.2.2.2.2,by rw[SC.out.2.2.2.1];exact fY.out,.inl (by rw[SC.out.2.2.2.1];exact HUP.out)⟩
      rw[←hcX]at vZ;clear hcX;obtain⟨mX,hmX⟩:∃mX,mX=w.heap.size+1+1:=⟨_,rfl⟩;have anh:w.heap.size+1+1≤mX:=by omega
      rw[←hmX]at vZ;clear hmX;clear jw gy vT hC5 gC hCT Hq JZ jT s0 s1 s2 s3 s4 aaK;have HQ':=Zh HQ;have M_:k≤3:=by omega
      have B3:∀i,i<cX.Aa.length→LD bs.length k i (Aj cX.Aa i):=fun i hi=>by
       rcases HQ.2.2.2.2.2 with h|h
       ·have:=(h i hi).1;rwa[HQ.2.2.2.2.1]at this
       ·have:=(h i hi).1;rwa[HQ.2.2.2.2.1]at this
      have hqk:=HQ.2.2.2.2.1;refine(c30 (S:=Cy mX X) vZ.rc (fun x hx=>⟨hx.2,by have:=hx.1;omega⟩) (hn.Cd oQ.Cd GY) (KL oQ.Cd GY) oQ.FQ (by omega) (by omega) (fun i hi=>by have:=(B3 i hi).step;omega)).mono ?_;rintro e Y ⟨vn,ln,dn2,rfl,oR,vQ,hdY,hsY,hlY,hbY⟩;obtain⟨pn,qn,rfl,_⟩:=hsY.val;have bB:=oR.at_ vO (by omega);have Tr:=oR.at_ hrX (by omega);have s0:=ch (i:=0) bB rfl;have s1:=ch (i:=1) bB rfl;have s2:=ch (i:=2) bB rfl;have s3:=ch (i:=3) bB rfl;have s4:=ch (i:=4) bB rfl;have f4:=cf (i:=4) bB;have r0:=ch (i:=0) Tr (v:=.slice none 0 0) rfl;have r1:=ch (i:=1) Tr (v:=.slice none 0 0) rfl;have r2:=ch (i:=2) Tr (v:=.slice none 0 0) rfl;have r3:=ch (i:=3) Tr (v:=.slice none 0 0) rfl;have r4:=ch (i:=4) Tr (v:=.slice none 0 0) rfl;have g0:=cf (i:=0) Tr;have g1:=cf (i:=1) Tr;have g2:=cf (i:=2) Tr;have g3:=cf (i:=3) Tr;have g4:=cf (i:=4) Tr;have hzX:=oQ.Cd.size;have hzY:=oR.size;have anj:=(Za.1 bB).1;have ank:=(Za.1 vO).1;have dW:=Zh hlY;have HBY:=Zh hbY;have v_:=Zh B3;clear hlY hbY B3 HQ hqk;dsimp only;go_wp2;refine ZX (v:=.agg #[.slice a1 bs.length c1,.slice a2 es.length c2,.slice a3 DJ.length c3,.slice va sl.length vc,.slice pn ln.length qn]) (by rw[A3 rfl];go_simp) rfl ?_;have key:∀Z,LW b lv w dn2 Z→Am (fun x=>x=w.heap.size∨x=w.heap.size+1) Y Z→VW w b lv d s (.returned (.agg #[.slice a1 bs.length c1,.slice a2 es.length c2,.slice a3 DJ.length c3,.slice va sl.length vc,.slice pn ln.length qn])) Z:=fun Z hLZ pY=>by
       obtain⟨q1,q2,q3,q4,q5,q6⟩:=HQ'.out;have rI:CC (Cy mX X) X Y:=oR.same fun x hx e=>by have:=hx.1;omega
       have U2:CC (Cy mX X) Y Z:=pY.same fun x hx e=>by have:=hx.1;rcases e with e|e<;>omega
       have hR:=(vZ.rc.Au rI).Au U2;have hzZ:=pY.size;have hN:∀x,Cy mX X x→Cy w.heap.size Z x:=fun x hx=>⟨by have:=hx.1;omega,by have:=hx.2;omega⟩;have th:=hR.imp hN;have hsZ:SI (Cy w.heap.size Z) Z (.slice pn ln.length qn) ln:=Sl.imp (hsY.Au (pY.same fun x hx e=>by have:=hx.1;rcases e with e|e<;>omega)) (fun x hx=>⟨by have:=hx.1;omega,by have:=hx.2;omega⟩) fun _ _ x=>x;obtain⟨kb,ke,kh,_⟩:=HB.out;refine⟨{cX with now:=ln},_,_,_,_,_,dn2,rfl,hLZ,by omega,⟨th.base,th.Ag,th.hooks,th.Aa,hsZ⟩,?_,by show cX.Aa.length≤s;omega⟩;have Wh:=vY.out;refine gw (by show 1≤cX.base.length∧_;rw[q1];exact nf) (by show∀x∈cX.base,_;rw[q1];exact kb) (by show cX.Ag.length=cX.base.length;rw[q1,q2];omega) (by show∀p∈cX.Ag,_;rw[q2];exact ke) (by show cX.hooks.length=cX.base.length;rw[q1,q3];omega) (by show∀x∈cX.hooks,_;rw[q3];exact kh) (by show 1≤cX.Aa.length∧cX.Aa.length≤3;omega) (by show Jz cX.base.length cX.Aa∨FO cX.base.length cX.Aa;rw[q1];exact q6) ⟨dW.out,fun i hi=>?_⟩;have Df:i<cX.Aa.length:=by rw[←dW.out];exact hi
       exact⟨(HBY.out i Df).1,(HBY.out i Df).2 (v_.out i Df).step.2.1⟩
      refine key _ ?_ ?_
      ·exact(((((oQ.step oR vQ).DS GN (by omega)).DS GN (Zj _)).DS GN (Zj _)).DS GN (Zj _)).DS GN (Zj _)|>.DS GN (Zj _)
      ·refine Am.set (Am.set (Am.set (Am.set (Am.set (Am.set (Am.refl _ _) (.inr rfl)) (.inl rfl)) (.inl rfl)) (.inl rfl)) (.inl rfl)) (.inl rfl)
def KM (n:Nat)(m:Nat→Int):List Int:=(ZaB n).map m
theorem DH (n:Nat)(m:Nat→Int):(KM n m).length=n:=by simp[KM]
theorem aX {n:Nat}{m:Nat→Int}{i:Nat}(h:i<n):nth (KM n m) i=m i:=by simp[KM,nth,h]
theorem jY (l:List Int):l=KM l.length (fun j=>nth l j):=by
 apply YM;intro i;by_cases h:i<l.length
 ·rw[Bo h];simp[KM,h]
 ·rw[ZS (by omega),ZS (by rw[DH];omega)]
theorem aY {n:Nat}{m:Nat→Int}{i:Nat}(h:i<n)(k b:Int):(KM n m).set i (m i+b*k)=KM n (Ht m k ((i:Int),b)):=by
 apply YM;intro j;by_cases hj:j<n
 ·by_cases hij:i=j
  ·subst hij
   rw[Ya (by rw[DH];exact h)];simp[KM,hj,Ht]
  ·rw[ZM hij]
   simp[KM,hj,Ht];omega
 ·rw[ZS (by simp[DH];omega),ZS (by rw[DH];omega)]
structure MG (w:Zb)(xs:Array Zc)(v:Zc)(n:Nat)(m:Nat→Int)(wr:Zb):Prop where
 below:Zm w.heap.size w wr
 box:wr.heap[w.heap.size]?=some (.cells xs 26 (0,0))
 own:Own wr (w.heap.size+1) v (KM n m)
theorem MG.later {w wr W:Zb}{xs:Array Zc}{v:Zc}{n:Nat}{m:Nat→Int}(h:MG w xs v n m wr)(hB:Zm wr.heap.size wr W):MG w xs v n m W:=
 ⟨h.below.trans (hB.mono h.below.size),(hB.block _ (Za.1 h.box).1).trans h.box,h.own.later hB⟩
theorem MG.row {w wr:Zb}{xs:Array Zc}{g cap n:Nat}{m:Nat→Int}(h:MG w xs (.slice (some ⟨g,0,none⟩) n cap) n m wr){i:Nat}(hi:i<n):w.heap.size+1≤g∧∃cur,wr.heap[g]?=some (.cells cur 3 (0,0))∧cur[i]?=some (.int .i64 (m i)):=by
 obtain⟨g',GI,cur,e,h1,h2,h3,h4,h5,h6⟩:=h.own.val (by rw[DH];omega);rw[DH]at e;cases e;refine⟨h1,cur,h2,?_⟩;rw[h5 i (by rw[DH];exact hi),aX hi]
theorem MG.set {w wr:Zb}{xs:Array Zc}{g cap n:Nat}{m:Nat→Int}(h:MG w xs (.slice (some ⟨g,0,none⟩) n cap) n m wr){i:Nat}(hi:i<n)(k b:Int):MG w xs (.slice (some ⟨g,0,none⟩) n cap) n (Ht m k ((i:Int),b)) (wr.setCell ⟨g,i,none⟩ (.int .i64 (m i+b*k))):=by
 obtain⟨g',GI,cur,e,h1,h2,h3,h4,h5,h6⟩:=h.own.val (by rw[DH];omega);rw[DH]at e;cases e;refine⟨bS h.below (by omega),(AW (by omega) _).trans h.box,?_⟩;rw[←aY hi];exact h6 i _ (by rw[DH];exact hi)
theorem c47 {S:Nat→Prop}{w:Zb}{v1 v2 v3 v4 v5 v6:Zc}{c:Aw}{l:List Int}(h:RC S w v1 v2 v3 v4 v5 c)(hv:E6 c)(hl:SI S w v6 l)(hn:l.length≤c.Aa.length)(hb:∀i,i<l.length→-2≤nth l i∧nth l i≤2)(hS:∀b,S b→b<w.heap.size):
  Calls Lp 47 #[.agg #[v1,v2,v3,v4,v5],v6] w fun e w'=>∃u,e=.returned u∧Zm w.heap.size w w'∧SI (Cy w.heap.size w') w' u (CH c l):=by
 obtain⟨a1,c1,rfl,l1,m1⟩:=h.base.val;obtain⟨a2,c2,rfl,l2,m2⟩:=h.Ag.val;obtain⟨a3,c3,rfl,l3,m3⟩:=h.hooks.val;obtain⟨a4,c4,rfl,l4,m4⟩:=h.Aa.val;obtain⟨a5,c5,rfl,l5,m5⟩:=h.now.val;obtain⟨a6,c6,rfl,l6,m6⟩:=hl.val;have I3:=DN;obtain⟨hg1,rE⟩:=hv.E4;have HM:=Zh (show measure c l=Ew (fun j=>nth c.base j) (l.zip c.Aa) from rfl);have Bw:Zm w.heap.size w (w.alloc (.cells #[.slice a1 c.base.length c1,.slice a2 c.Ag.length c2,.slice a3 c.hooks.length c3,.slice a4 c.Aa.length c4,.slice a5 c.now.length c5] 26)):=bA (Zi _ _);have H32:=Zh (fun W (hB:Zm w.heap.size w W)=>Tq (h.later hB).base (by omega));have hbb:=Jp hv;have HRB:=Zh (jY c.base);go_enter Lp.func47,n47;go_wp2_with (go_at_call 32;refine(H32.out _ Bw).mono ?_;rintro e w1 ⟨u,rfl,Bh,hO⟩;obtain⟨g,cap,cur,rfl,hgb,_⟩:=hO.val (by omega));have yM:MG w #[.slice a1 c.base.length c1,.slice a2 c.Ag.length c2,.slice a3 c.hooks.length c3,.slice a4 c.Aa.length c4,.slice a5 c.now.length c5] (.slice (some ⟨g,0,none⟩) c.base.length cap) c.base.length (fun j=>nth c.base j) w1:=by
  refine⟨Bw.trans (Bh.mono Bw.size),(Bh.block _ (by simp)).trans (Bv _ _),?_⟩;rw[←HRB.out];rw[ZG]at hO;exact hO
 clear Bh hO hgb;go_loopg [6] l.length (fun gg i wr=>∃(k:Nat) (m:Nat→Int),k≤l.length∧gg=l.length - k∧i=.int .i64 k∧Ew m ((l.zip c.Aa).drop k)=measure c l∧(∀j,-(60+16*k)≤m j∧m j≤60+16*k)∧MG w #[.slice a1 c.base.length c1,.slice a2 c.Ag.length c2,.slice a3 c.hooks.length c3,.slice a4 c.Aa.length c4,.slice a5 c.now.length c5] (.slice (some ⟨g,0,none⟩) c.base.length cap) c.base.length m wr)
 case atStart=>exact⟨0,_,Zt _,rfl,rfl,rfl,fun j=>by have:=hbb j;omega,yM⟩
 case round=>
  obtain⟨k,m,hk,rfl,rfl,CO,uV,hM⟩:=hrel;have hf:=Zh CO;clear CO;by_cases Az:k<l.length
  ·have Wj:k<c.Aa.length:=by omega
   have kz:=hb k Az;have hd:=Zh (R5 (m:=m) Az Wj);obtain⟨b6,o6,rfl,bq,pO⟩:=hl.at_ Az;obtain⟨b,o,s2,s3,rfl,S8,FB,PF,Ny,kt,ku,hp,ho⟩:=h.Aa.at_ (i:=k) Wj;obtain⟨a7,c7,rfl,l7,m7⟩:=hp.val;clear FB PF kt ku;have Wt:=hv.pull k Wj;have hpn:=hv.Ak k Wj;have Jm:=hv.few;obtain⟨n,Fi⟩:∃n,n=nth l k:=⟨_,rfl⟩;rw[←Fi]at pO kz hd;clear Fi;obtain⟨ps,qN⟩:∃ps,ps=(Aj c.Aa k).Ak:=⟨_,rfl⟩;rw[←qN]at Ny hp l7 Wt hpn hd;clear qN;have Tb:(k:Int)<(l.length:Int):=by omega
   have ann:(k:Int)<(c.Aa.length:Int):=by omega
   go_wp2;go_loopg [7] ps.length (fun gg i wx=>∃(j:Nat) (mm:Nat→Int),j≤ps.length∧gg=ps.length - j∧i=.int .i64 j∧Bq mm n (ps.drop j)=Bq m n ps∧(∀i,-(60+16*(k:Int)+8*j)≤mm i∧mm i≤60+16*(k:Int)+8*j)∧MG w #[.slice a1 c.base.length c1,.slice a2 c.Ag.length c2,.slice a3 c.hooks.length c3,.slice (some ⟨b,o,none⟩) c.Aa.length c4,.slice a5 c.now.length c5] (.slice (some ⟨g,0,none⟩) c.base.length cap) c.base.length mm wx)
   case atStart=>exact⟨0,m,Zt _,rfl,rfl,rfl,fun i=>by have:=uV i;omega,hM⟩
   case round=>
    obtain⟨j,mm,hj,rfl,rfl,CO,di,Uj⟩:=hrel;have Lf:=Zh CO;clear CO;have ano:=(Uj.below.cell (p:=⟨b,o+k*5+2,none⟩) (hS b S8)).trans Ny;have g3:=ch (i:=3) Uj.box (v:=.slice (some ⟨b,o,none⟩) c.Aa.length c4) rfl;by_cases GQ:j<ps.length
    ·obtain⟨b7,o7,rfl,Wi,p1,p2⟩:=hp.at_ GQ
     rw[←Uj.below.cell (p:=⟨b7,o7+j*2,none⟩) (hS b7 Wi)]at p1;rw[←Uj.below.cell (p:=⟨b7,o7+j*2+1,none⟩) (hS b7 Wi)]at p2;have agD:=(Uj.below.cell (p:=⟨b6,o6+k,none⟩) (hS b6 bq)).trans pO;have vm:=Zh (Kx (m:=mm) (n:=n) GQ);obtain⟨Og,T5,kC,kD⟩:=Wt j GQ;obtain⟨q,hq⟩:∃q,q=B1 ps j:=⟨_,rfl⟩;rw[←hq]at p1 p2 vm Og T5 kC kD;clear hq;obtain⟨x',y⟩:=q;obtain⟨x,rfl⟩:∃x:Nat,x'=x:=⟨x'.toNat,by simp only at Og;omega⟩;dsimp only at p1 p2 Og T5 kC kD;have jm:x<c.base.length:=by omega
     have hxi:(x:Int)<(c.base.length:Int):=by omega
     have avf:(0:Int)≤(x:Int):=by omega
     have aan:(0:Int)≤(k:Int):=by omega
     have Lc:(j:Int)<(ps.length:Int):=by omega
     have avg:(0:Int)≤(j:Int):=by omega
     have hpr:=prod_bound ⟨kC,kD⟩ kz;have hmx:=di x;have dj:=Uj.later (bA (o:=.cells #[.int .i64 x,.int .i64 y] 64) (Zi _ _));go_wp2;obtain⟨W5,I6⟩:∃W5,W5=wr.alloc (.cells #[.int .i64 x,.int .i64 y] 64):=⟨_,rfl⟩;have e0:W5.cell? ⟨wr.heap.size,0,none⟩=some (.int .i64 x):=by rw[I6];exact cn _ _ _ rfl
     have e1:W5.cell? ⟨wr.heap.size,1,none⟩=some (.int .i64 y):=by rw[I6];exact cn _ _ _ rfl
     have e6:W5.cell? ⟨b6,o6+k,none⟩=some (.int .i64 n):=by rw[I6];exact ca agD _
     rw[←I6]at dj;obtain⟨hgb,cur,Wc,PV⟩:=dj.row jm;have r0:W5.cell? ⟨g,x,none⟩=some (.int .i64 (mm x)):=ch Wc PV;have rf:=cf (i:=x) Wc;rw[←I6];clear I6 agD p1 p2 g3 ano;go_still_tail 17,(by kernel_rfl);change wpList _ _ _ _ _ W5.drew;have hM6:=(dj.later (Zi _ _).drew).set jm n y;go_wp2;go_roundg (ps.length - (j+1))
     case rel=>exact⟨j+1,Ht mm n ((x:Int),y),by omega,rfl,by go_num,by rw[←Lf.out,vm.out],fun i=>by have:=Hk (N:=60+16*(k:Int)+8*j) (p:=((x:Int),y)) di ⟨kC,kD⟩ kz i;omega,hM6⟩
     case measure=>omega
    ·have e2:mm=Bq m n ps:=by rw[←Lf.out,zf.2 (by omega)];rfl
     subst e2;go_wp2;go_roundg (l.length - (k+1))
     case rel=>exact⟨k+1,_,by omega,rfl,by go_num,by rw[←hf.out,hd.out],fun i=>by have:=di i;have:(j:Int)≤2:=(by omega);omega,Uj⟩
     case measure=>omega
  ·have e1:m=measure c l:=by rw[←hf.out,zf.2 (by simp;omega)];rfl
   subst e1;have hs:=hM.own.si;rw[show KM c.base.length (measure c l)=CH c l from rfl]at hs;have KC:=hM.below;go_wp2;go_ret;exact⟨_,rfl,KC,Sl.imp hs (fun x (hx:Cy (w.heap.size+1) wr x)=>⟨by have:=hx.1;omega,hx.2⟩) (fun _ _ x=>x)⟩
end Go.Proofs.Fit
