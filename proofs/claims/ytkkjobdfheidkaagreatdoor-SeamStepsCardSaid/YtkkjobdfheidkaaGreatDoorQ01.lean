/- Part of a proof. -/
import Derived.Test.YtkkjobdfheidkaaGreatDoorQ00
set_option maxRecDepth 100000
set_option maxHeartbeats 6400000
open Array renaming getElem?_map→Yi,all_eq_true_iff_forall_mem→Yc,mem_of_getElem?→zM,getD_eq_getD_getElem?→YO,getElem?_eq_some_iff→Za,getElem?_eq_getElem→ZB,getElem?_setIfInBounds→Z3,getElem?_append_left→zg,getElem?_setIfInBounds_ne→Zk
open Bool renaming and_eq_true→ZD,or_eq_true→ZaA
open Go renaming Program→Zp,Value→Zc,TypeId→Zs,runtimePanic→zw,askRoom→Zah,World→Zb,Event→ZU,FuncId→YT,callFunc→Zz,undef→Ze,Frame→ZA,PanicEntry→zc,Goroutine→Zg,stepG→Z6
open Go.Builtin renaming firstCells→Zu,mayShare→Yb,append_→Zaa,zeroCells→Zr,nextslicecap→Yk,unsafeAdd_→YE
open Go.CallKind renaming early→ZaD
open Go.Conv renaming bytesToString→Zaf
open Go.Deferred renaming ofValue→zS
open Go.Frame renaming raise→ZaN,enter→Zq
open Go.GStep renaming after→zv
open Go.Instr renaming enterLoop→YU,beginRound→Zap,endRound→ZaM,endLoop→Zar,takeDeferred→Yj
open Go.Op renaming equal→Y0
open Go.Region renaming wanted→zU
open Go.Sem renaming runT_bind'→Z8,runT_eq→Z5,runT→ZF
open Go.Value renaming tuple→YP,slice→Zy
open List renaming range→ZaB,cons_append→ZaC,exists_cons_of_ne_nil→YZ,append_assoc→ZaQ,length_cons→zK
open Nat renaming lt_of_lt_of_le→Zl,le_trans→Zx,le_refl→Zj
open Option renaming map_eq_some_iff→zd,getD_some→Zw
namespace Go.BK
open Go
section
variable {P' P:Zp}{fz:Prop}{ρ:Ren}
theorem UM (T:Twins P' P)(hB:Base P ρ){x x':Zc}(hx:VR ρ x x')(xt at_:Zs)(ok:Bool):Al P' P fz VR ρ (Instr.typeAssert x xt at_ ok) (Instr.typeAssert x' xt at_ ok):=by
 unfold Instr.typeAssert;dsimp only;refine Ac _ (Ao T at_) fun σ d d' hle hd=>?_;obtain⟨rfl,hd⟩:=hd;have holds:∀τ {v v':Zc},VR τ v v'→Al P' P fz VR τ (pure (if ok=true then YP #[v,.bool true] else v)) (pure (if ok=true then YP #[v',.bool true] else v')):=by
  intro τ v v' hv;refine Ad ?_;split
  ·exact .tuple' ((Bt.single hv).push (.bool true))
  ·exact hv
 have fails:∀τ,ρ.le τ→∀(s d:Option Zs) (m:String),Al P' P fz VR τ (if ok=true then zeroValue at_>>=fun z=>pure (YP #[z,.bool false]) else zw (.typeAssertion s d at_ m))
   (if ok=true then zeroValue at_>>=fun z=>pure (YP #[z,.bool false]) else zw (.typeAssertion s d at_ m)):=by
  intro τ C6 s d m;split
  ·exact Ac _ (CY T at_) fun _ _ _ _ hz=>Ad (.tuple' ((Bt.single hz).push (.bool false)))
  ·exact AH T (hB.mono C6) _
 have A6:=hx.mono hle;have rest:(∀ms,d≠ .interface ms)→Al P' P fz VR σ
   (match x with
    | .nilIface=>(if ok=true then zeroValue at_>>=fun z=>pure (YP #[z,.bool false]) else zw (.typeAssertion (some xt) none at_ ""))
    | .iface t v=>if t=at_ then pure (if ok=true then YP #[v,.bool true] else v) else(if ok=true then zeroValue at_>>=fun z=>pure (YP #[z,.bool false]) else zw (.typeAssertion (some xt) (some t) at_ ""))
    |_=>stuck "TypeAssert: interface value expected")
   (match x' with
    | .nilIface=>(if ok=true then zeroValue at_>>=fun z=>pure (YP #[z,.bool false]) else zw (.typeAssertion (some xt) none at_ ""))
    | .iface t v=>if t=at_ then pure (if ok=true then YP #[v,.bool true] else v) else(if ok=true then zeroValue at_>>=fun z=>pure (YP #[z,.bool false]) else zw (.typeAssertion (some xt) (some t) at_ ""))
    |_=>stuck "TypeAssert: interface value expected"):=by
  intro _;cases A6 with
  |nilIface=>exact fails σ hle _ _ _
  |iface t h=>
   dsimp only;by_cases e:t=at_
   ·rw[if_pos e,if_pos e];exact holds σ h
   ·rw[if_neg e,if_neg e];exact fails σ hle _ _ _
  |_=>exact Ae
 cases d with
 |interface want=>
  cases A6 with
  |nilIface=>exact fails σ hle _ _ _
  |iface t h=>
   dsimp only;refine Ac _ (Cl T t) fun Bj i i' Av hi=>?_;obtain⟨rfl,_⟩:=hi;split
   ·exact holds Bj ((VR.iface t h).mono Av)
   ·exact fails Bj (Ren.le_trans hle Av) _ _ _
  |_=>exact Ae
 |_=>
  have:=rest (fun ms h=>by cases h);cases A6<;>first|exact this|exact Ae
theorem ack (T:Twins P' P)(at_:Array Zs)(t:Zs){a a':Array Zc}(h:BN ρ a a'):Al P' P fz VR ρ (Builtin.len_ at_ t a) (Builtin.len_ at_ t a'):=by
 unfold Builtin.len_;cases at_[0]? with
 |none=>exact Ae
 |some ME=>
  rcases h.opt 0 with⟨e1,e2⟩|⟨x,x',e1,e2,hx⟩
  ·rw[e1,e2];exact Ae
  ·rw[e1,e2]
   dsimp only;refine Ac _ (Ao T ME) fun σ d d' hle hd=>?_;obtain⟨rfl,_⟩:=hd;have A6:=hx.mono hle;cases d with
   |string=>cases A6<;>first|exact Ae|exact Ad (.int _ _)
   |array n e=>exact Ad (.int _ _)
   |pointer e=>
    refine Ac _ (Ao T e) fun Bj d d' Av hd=>?_;obtain⟨rfl,_⟩:=hd;cases d<;>first|exact Ae|exact Ad (.int _ _)
   |slice e=>cases A6<;>first|exact Ae|exact Ad (.int _ _)
   |map k e=>
    cases A6 with
    | @map r r' hr=>
     cases r<;>cases r'<;>first|exact hr.elim|skip
     ·exact Ad (.int _ _)
     ·refine Ac _ (CX hr) fun τ o o' C6 ho=>?_
      cases ho with
      |map c SV=>dsimp only;rw[SV.1];exact Ad (.int _ _)
      |_=>exact Ae
    |_=>exact Ae
   |chan _ e=>
    cases A6 with
    | @chan r r' hr=>
     cases r<;>cases r'<;>first|exact hr.elim|skip
     ·exact Ad (.int _ _)
     ·refine Ac _ (CX hr) fun τ o o' C6 ho=>?_
      cases ho with
      |chan cap cl s r tm hb=>dsimp only;rw[hb.1];exact Ad (.int _ _)
      |_=>exact Ae
    |_=>exact Ae
   |_=>exact Ae
theorem acm (T:Twins P' P)(at_:Array Zs)(t:Zs){a a':Array Zc}(h:BN ρ a a'):Al P' P fz VR ρ (Builtin.cap_ at_ t a) (Builtin.cap_ at_ t a'):=by
 unfold Builtin.cap_;cases at_[0]? with
 |none=>exact Ae
 |some ME=>
  rcases h.opt 0 with⟨e1,e2⟩|⟨x,x',e1,e2,hx⟩
  ·rw[e1,e2];exact Ae
  ·rw[e1,e2]
   dsimp only;refine Ac _ (Ao T ME) fun σ d d' hle hd=>?_;obtain⟨rfl,_⟩:=hd;have A6:=hx.mono hle;cases d with
   |array n e=>exact Ad (.int _ _)
   |pointer e=>
    refine Ac _ (Ao T e) fun Bj d d' Av hd=>?_;obtain⟨rfl,_⟩:=hd;cases d<;>first|exact Ae|exact Ad (.int _ _)
   |slice e=>cases A6<;>first|exact Ae|exact Ad (.int _ _)
   |chan _ e=>
    cases A6 with
    | @chan r r' hr=>
     cases r<;>cases r'<;>first|exact hr.elim|skip
     ·exact Ad (.int _ _)
     ·refine Ac _ (CX hr) fun τ o o' C6 ho=>?_
      cases ho with
      |chan cap cl s r tm hb=>exact Ad (.int _ _)
      |_=>exact Ae
    |_=>exact Ae
   |_=>exact Ae
theorem UN {x x':Zc}(hx:VR ρ x x'):Al P' P fz F4 ρ (Builtin.lenOf x) (Builtin.lenOf x'):=by
 cases hx<;>first|exact Ae|exact Ad rfl
theorem Jb (size n:Nat){x x':Zc}(hx:VR ρ x x'):Al P' P fz BN ρ (Zu size n x) (Zu size n x'):=by
 cases hx with
 | @slice a a' n c ha=>
  cases a<;>cases a'<;>first|exact ha.elim|skip
  ·exact Ad Bt.nil
  ·exact J4 ha _
 |string s=>
  refine Ad ?_;refine⟨rfl,fun i u v hu hv=>?_⟩;rw[hu]at hv;cases hv;rw[Yi,zd]at hu;obtain⟨b,_,rfl⟩:=hu;exact .int _ _
 |_=>exact Ae
theorem wN (T:Twins P' P)(at_:Array Zs)(t:Zs){a a':Array Zc}(h:BN ρ a a'):Al P' P fz VR ρ (Builtin.copy_ at_ t a) (Builtin.copy_ at_ t a'):=by
 unfold Builtin.copy_;cases at_[0]? with
 |none=>exact Ae
 |some ME=>
  rcases h.opt 0 with⟨e1,e2⟩|⟨x,x',e1,e2,hx⟩
  ·rw[e1,e2];exact Ae
  ·rw[e1,e2]
   rcases h.opt 1 with⟨e3,e4⟩|⟨y,y',e3,e4,hy⟩
   ·rw[e3,e4];exact Ae
   ·rw[e3,e4]
    dsimp only;refine Ac _ (Ao T ME) fun σ d d' hle hd=>?_;obtain⟨rfl,_⟩:=hd;have A6:=hx.mono hle;cases d with
    |slice e=>
     cases A6 with
     | @slice b b' n c hb=>
      dsimp only;refine Ac _ (UN (hy.mono hle)) fun Bj l l' Av hl=>?_;cases hl;refine Ac _ (Cb T e) fun Ef s s' AV hs=>?_;obtain⟨rfl,_⟩:=hs;have GV:=Ren.le_trans hle (Ren.le_trans Av AV);refine Ac _ (Jb _ _ (hy.mono GV)) fun J6 z z' BF hz=>?_;cases b<;>cases b'<;>first|exact hb.elim|skip
      ·exact Ad (.int _ _)
      ·refine Ac _ (I_ 0 (AR.mono (Ren.le_trans Av (Ren.le_trans AV BF)) hb) hz.list) fun MF _ _ _ _=>?_
       exact Ad (.int _ _)
     |_=>exact Ae
    |_=>exact Ae
theorem F5 {α β:Type}{Q:Ren→α→β→Prop}{c:Prop}[Decidable c]{a b:Sem α}{a' b':Sem β}(h1:c→Al P' P fz Q ρ a a')(h2:¬c→Al P' P fz Q ρ b b'):Al P' P fz Q ρ (if c then a else b) (if c then a' else b'):=by
 by_cases h:c
 ·rw[if_pos h,if_pos h];exact h1 h
 ·rw[if_neg h,if_neg h];exact h2 h
def Idle (P':Zp){α:Type}(s:Sem α):Prop:=∀w es,∃a,s.runT P' w es=(.ok a w,es)
theorem Ec {α:Type}(a:α):Idle P' (pure a):=fun _ _=>⟨a,rfl⟩
theorem Fw {α β:Type}{s:Sem α}{f:α→Sem β}(h:Idle P' s)(hf:∀a,Idle P' (f a)):Idle P' (s>>=f):=fun w es=>by
 obtain⟨a,ha⟩:=h w es;obtain⟨b,hb⟩:=hf a w es;refine⟨b,?_⟩;show(s.bind f).runT P' w es=_;rw[Z8,ha];exact hb
theorem bK (r:Nat):Idle P' (shape r):=fun _ _=>⟨_,rfl⟩
theorem WA (a:Addr):Idle P' (frozen a):=fun _ _=>⟨_,rfl⟩
theorem Gn (a:Addr)(n:Nat):Idle P' (Builtin.holdsCells a n):=by
 unfold Builtin.holdsCells;refine Fw (bK _) fun s=>?_;split<;>exact Ec _
theorem SX (size aiq n:Nat)(b:Option Addr)(x:Zc):Idle P' (Yb size aiq n b x):=by
 unfold Yb;dsimp only;cases b with
 |none=>
  refine Fw (Ec _) fun s=>?_;split
  ·exact Ec _
  ·split
   ·exact Fw (Gn _ _) fun _=>Ec _
   ·exact Ec _
 |some a=>
  refine Fw (Gn _ _) fun s=>?_;refine Fw (WA _) fun f=>?_;refine Fw (Ec _) fun s=>?_;split
  ·exact Ec _
  ·split
   ·exact Fw (Gn _ _) fun _=>Ec _
   ·exact Ec _
theorem k_ (T:Twins P' P)(hB:Base P ρ)(at_:Array Zs)(t:Zs){a a':Array Zc}(h:BN ρ a a'):Al P' P fz VR ρ (Zaa at_ t a) (Zaa at_ t a'):=by
 unfold Zaa;cases at_[0]? with
 |none=>exact Ae
 |some ME=>
  rcases h.opt 0 with⟨e1,e2⟩|⟨x,x',e1,e2,hx⟩
  ·rw[e1,e2];exact Ae
  ·rw[e1,e2]
   rcases h.opt 1 with⟨e3,e4⟩|⟨y,y',e3,e4,hy⟩
   ·rw[e3,e4];exact Ae
   ·rw[e3,e4]
    dsimp only;refine Ac _ (Ao T ME) fun σ d d' hle hd=>?_;obtain⟨rfl,_⟩:=hd;have A6:=hx.mono hle;cases d with
    |slice e=>
     cases A6 with
     | @slice b b' n c hb=>
      dsimp only;refine Ac _ (Cb T e) fun TA size MB bL hs=>?_;obtain⟨rfl,_⟩:=hs;have et:=hy.mono (Ren.le_trans hle bL);have tS:=Nx.mono bL hb;have eu:Base P TA:=hB.mono (Ren.le_trans hle bL);have APP:∀τ (z:Bool) (k:Nat),TA.le τ→Al P' P fz BN τ
        (if(!z)=true then Zu size k y else if k*size=0 then pure #[] else zeroValue e>>=fun v=>pure (Zr v.cells k))
        (if(!z)=true then Zu size k y' else if k*size=0 then pure #[] else zeroValue e>>=fun v=>pure (Zr v.cells k)):=by
       intro τ z k C6;split
       ·exact Jb _ _ (et.mono C6)
       ·split
        ·exact Ad Bt.nil
        ·refine Ac _ (CY T e) fun _ v v' _ hv=>Ad ?_
         have:=G7 hv.cells (k*v.cells.size);unfold Zr;rw[hv.cells.1]at this⊢;exact this
      have R2:∀τ (z:Bool) (k:Nat),TA.le τ→Al P' P fz VR τ
        (choose (.appendCap (n+k) c e)>>=fun cap=>typeInfo e>>=fun i=>Zah (cap*i.bytes)>>=fun _=>Zu size n (.slice b n c)>>=fun old=>
         (if(!z)=true then Zu size k y else if k*size=0 then pure #[] else zeroValue e>>=fun v=>pure (Zr v.cells k))>>=fun new=>
         zeroValue e>>=fun v=>newRow e (old++new++Zr v.cells (cap - (n+k)))>>=fun a=>pure (Zy (some a) (n+k) cap))
        (choose (.appendCap (n+k) c e)>>=fun cap=>typeInfo e>>=fun i=>Zah (cap*i.bytes)>>=fun _=>Zu size n (.slice b' n c)>>=fun old=>
         (if(!z)=true then Zu size k y' else if k*size=0 then pure #[] else zeroValue e>>=fun v=>pure (Zr v.cells k))>>=fun new=>
         zeroValue e>>=fun v=>newRow e (old++new++Zr v.cells (cap - (n+k)))>>=fun a=>pure (Zy (some a) (n+k) cap)):=by
       intro τ z k C6;refine Ac _ (G2 _) fun acn cap GI BJ wO=>?_;cases wO;refine Ac _ (Cl T e) fun Dp i i' Ce hi=>?_;obtain⟨rfl,_⟩:=hi;refine Ac _ (Tv _) fun JB _ _ Fb _=>?_;have B5:=Ren.le_trans C6 (Ren.le_trans BJ (Ren.le_trans Ce Fb));refine Ac _ (Jb size n (.slice n c (tS.mono B5))) fun G6 old air bM hold=>?_;refine Ac _ (APP G6 z k (Ren.le_trans B5 bM)) fun ek new new' ais Bv=>?_;refine Ac _ (CY T e) fun aco v v' acp hv=>?_;have Ds:BN aco (old++new++Zr v.cells (cap - (n+k))) (air++new'++Zr v'.cells (cap - (n+k))):=by
        refine((BN.mono (Ren.le_trans ais acp) hold).append (BN.mono acp Bv)).append ?_;have:=G7 hv.cells ((cap - (n+k))*v.cells.size);unfold Zr;rw[hv.cells.1]at this⊢;exact this
       exact Ac _ (Ip e Ds) fun _ _ _ _ ha=>Ad (.slice _ _ ha)
      have R1:∀τ (z:Bool) (k:Nat) (u:Unsupported),GG (.unsupported u)→TA.le τ→Al P' P fz VR τ
        (typeInfo e>>=fun i=>if Yk (n+k) c*i.bytes>2^48 then((if z=true then(zw (.error "growslice: len out of range"):Sem PUnit) else Yb size n k b y>>=fun s=>if(!s)=true then(mark .noRoom>>=fun _=>unsupported u) else unsupported u)>>=fun _=>
         choose (.appendCap (n+k) c e)>>=fun cap=>typeInfo e>>=fun i=>Zah (cap*i.bytes)>>=fun _=>Zu size n (.slice b n c)>>=fun old=>
         (if(!z)=true then Zu size k y else if k*size=0 then pure #[] else zeroValue e>>=fun v=>pure (Zr v.cells k))>>=fun new=>
         zeroValue e>>=fun v=>newRow e (old++new++Zr v.cells (cap - (n+k)))>>=fun a=>pure (Zy (some a) (n+k) cap))
        else
         choose (.appendCap (n+k) c e)>>=fun cap=>typeInfo e>>=fun i=>Zah (cap*i.bytes)>>=fun _=>Zu size n (.slice b n c)>>=fun old=>
         (if(!z)=true then Zu size k y else if k*size=0 then pure #[] else zeroValue e>>=fun v=>pure (Zr v.cells k))>>=fun new=>
         zeroValue e>>=fun v=>newRow e (old++new++Zr v.cells (cap - (n+k)))>>=fun a=>pure (Zy (some a) (n+k) cap))
        (typeInfo e>>=fun i=>if Yk (n+k) c*i.bytes>2^48 then((if z=true then(zw (.error "growslice: len out of range"):Sem PUnit) else Yb size n k b' y'>>=fun s=>if(!s)=true then(mark .noRoom>>=fun _=>unsupported u) else unsupported u)>>=fun _=>
         choose (.appendCap (n+k) c e)>>=fun cap=>typeInfo e>>=fun i=>Zah (cap*i.bytes)>>=fun _=>Zu size n (.slice b' n c)>>=fun old=>
         (if(!z)=true then Zu size k y' else if k*size=0 then pure #[] else zeroValue e>>=fun v=>pure (Zr v.cells k))>>=fun new=>
         zeroValue e>>=fun v=>newRow e (old++new++Zr v.cells (cap - (n+k)))>>=fun a=>pure (Zy (some a) (n+k) cap))
        else
         choose (.appendCap (n+k) c e)>>=fun cap=>typeInfo e>>=fun i=>Zah (cap*i.bytes)>>=fun _=>Zu size n (.slice b' n c)>>=fun old=>
         (if(!z)=true then Zu size k y' else if k*size=0 then pure #[] else zeroValue e>>=fun v=>pure (Zr v.cells k))>>=fun new=>
         zeroValue e>>=fun v=>newRow e (old++new++Zr v.cells (cap - (n+k)))>>=fun a=>pure (Zy (some a) (n+k) cap)):=by
       intro τ z k u hu C6;refine Ac _ (Cl T e) fun Dp i i' Ce hi=>?_;obtain⟨rfl,_⟩:=hi;have Bg:=Ren.le_trans C6 Ce;split
       ·refine Ac (fun _ _ _=>False) ?_ fun _ _ _ _ h=>h.elim
        split
        ·exact AH T (eu.mono Bg) _
        ·refine .G0 (fun w es=>?_)
         obtain⟨s,hs⟩:=SX (P':=P') size n k b y w es;show∃x v f,((Yb size n k b y).bind _).runT P' w es=_∧_;rw[Z8,hs];dsimp only;split
         ·exact⟨_,_,_,rfl,hu⟩
         ·exact⟨_,_,_,rfl,hu⟩
       ·exact R2 Dp z k Bg
      have STORE:∀τ (z:Bool) (k:Nat),TA.le τ→Al P' P fz VR τ
        ((if(!z)=true then Zu size k y else if k*size=0 then pure #[] else zeroValue e>>=fun v=>pure (Zr v.cells k))>>=fun new=>
         match(generalizing:=false) b with
         |some a=>storeCells (a.add (n*size)) new.toList>>=fun _=>pure (Zy b (n+k) c)
         |_=>pure (Zy b (n+k) c))
        ((if(!z)=true then Zu size k y' else if k*size=0 then pure #[] else zeroValue e>>=fun v=>pure (Zr v.cells k))>>=fun new=>
         match(generalizing:=false) b' with
         |some a=>storeCells (a.add (n*size)) new.toList>>=fun _=>pure (Zy b' (n+k) c)
         |_=>pure (Zy b' (n+k) c)):=by
       intro τ z k C6;refine Ac _ (APP τ z k C6) fun Dp new new' Ce Bv=>?_;have J2:=tS.mono (Ren.le_trans C6 Ce);cases b<;>cases b'<;>first|exact J2.elim|skip
       ·exact Ad (.slice _ _ J2)
       ·exact Ac _ (I_ 0 (AR.add J2 _) Bv.list) fun JB _ _ Fb _=>Ad (.slice _ _ (Nx.mono Fb J2))
      have MAIN:∀τ (z:Bool) (k:Nat) (u:Unsupported),GG (.unsupported u)→TA.le τ→Al P' P fz VR τ
        (if n+k≤c then((if(!z)=true then Zu size k y else if k*size=0 then pure #[] else zeroValue e>>=fun v=>pure (Zr v.cells k))>>=fun new=>
         match(generalizing:=false) b with
         |some a=>storeCells (a.add (n*size)) new.toList>>=fun _=>pure (Zy b (n+k) c)
         |_=>pure (Zy b (n+k) c))
        else typeInfo e>>=fun i=>if((n+k:Nat):Int)>IntKind.i64.max∧(z=true∨i.bytes=0) then((zw (.error "growslice: len out of range"):Sem PUnit)>>=fun _=>
         (typeInfo e>>=fun i=>if Yk (n+k) c*i.bytes>2^48 then((if z=true then(zw (.error "growslice: len out of range"):Sem PUnit) else Yb size n k b y>>=fun s=>if(!s)=true then(mark .noRoom>>=fun _=>unsupported u) else unsupported u)>>=fun _=>
         choose (.appendCap (n+k) c e)>>=fun cap=>typeInfo e>>=fun i=>Zah (cap*i.bytes)>>=fun _=>Zu size n (.slice b n c)>>=fun old=>
         (if(!z)=true then Zu size k y else if k*size=0 then pure #[] else zeroValue e>>=fun v=>pure (Zr v.cells k))>>=fun new=>
         zeroValue e>>=fun v=>newRow e (old++new++Zr v.cells (cap - (n+k)))>>=fun a=>pure (Zy (some a) (n+k) cap))
        else
         choose (.appendCap (n+k) c e)>>=fun cap=>typeInfo e>>=fun i=>Zah (cap*i.bytes)>>=fun _=>Zu size n (.slice b n c)>>=fun old=>
         (if(!z)=true then Zu size k y else if k*size=0 then pure #[] else zeroValue e>>=fun v=>pure (Zr v.cells k))>>=fun new=>
         zeroValue e>>=fun v=>newRow e (old++new++Zr v.cells (cap - (n+k)))>>=fun a=>pure (Zy (some a) (n+k) cap)))
         else(typeInfo e>>=fun i=>if Yk (n+k) c*i.bytes>2^48 then((if z=true then(zw (.error "growslice: len out of range"):Sem PUnit) else Yb size n k b y>>=fun s=>if(!s)=true then(mark .noRoom>>=fun _=>unsupported u) else unsupported u)>>=fun _=>
         choose (.appendCap (n+k) c e)>>=fun cap=>typeInfo e>>=fun i=>Zah (cap*i.bytes)>>=fun _=>Zu size n (.slice b n c)>>=fun old=>
         (if(!z)=true then Zu size k y else if k*size=0 then pure #[] else zeroValue e>>=fun v=>pure (Zr v.cells k))>>=fun new=>
         zeroValue e>>=fun v=>newRow e (old++new++Zr v.cells (cap - (n+k)))>>=fun a=>pure (Zy (some a) (n+k) cap))
        else
         choose (.appendCap (n+k) c e)>>=fun cap=>typeInfo e>>=fun i=>Zah (cap*i.bytes)>>=fun _=>Zu size n (.slice b n c)>>=fun old=>
         (if(!z)=true then Zu size k y else if k*size=0 then pure #[] else zeroValue e>>=fun v=>pure (Zr v.cells k))>>=fun new=>
         zeroValue e>>=fun v=>newRow e (old++new++Zr v.cells (cap - (n+k)))>>=fun a=>pure (Zy (some a) (n+k) cap)))
        (if n+k≤c then((if(!z)=true then Zu size k y' else if k*size=0 then pure #[] else zeroValue e>>=fun v=>pure (Zr v.cells k))>>=fun new=>
         match(generalizing:=false) b' with
         |some a=>storeCells (a.add (n*size)) new.toList>>=fun _=>pure (Zy b' (n+k) c)
         |_=>pure (Zy b' (n+k) c))
        else typeInfo e>>=fun i=>if((n+k:Nat):Int)>IntKind.i64.max∧(z=true∨i.bytes=0) then((zw (.error "growslice: len out of range"):Sem PUnit)>>=fun _=>
         (typeInfo e>>=fun i=>if Yk (n+k) c*i.bytes>2^48 then((if z=true then(zw (.error "growslice: len out of range"):Sem PUnit) else Yb size n k b' y'>>=fun s=>if(!s)=true then(mark .noRoom>>=fun _=>unsupported u) else unsupported u)>>=fun _=>
         choose (.appendCap (n+k) c e)>>=fun cap=>typeInfo e>>=fun i=>Zah (cap*i.bytes)>>=fun _=>Zu size n (.slice b' n c)>>=fun old=>
         (if(!z)=true then Zu size k y' else if k*size=0 then pure #[] else zeroValue e>>=fun v=>pure (Zr v.cells k))>>=fun new=>
         zeroValue e>>=fun v=>newRow e (old++new++Zr v.cells (cap - (n+k)))>>=fun a=>pure (Zy (some a) (n+k) cap))
        else
         choose (.appendCap (n+k) c e)>>=fun cap=>typeInfo e>>=fun i=>Zah (cap*i.bytes)>>=fun _=>Zu size n (.slice b' n c)>>=fun old=>
         (if(!z)=true then Zu size k y' else if k*size=0 then pure #[] else zeroValue e>>=fun v=>pure (Zr v.cells k))>>=fun new=>
         zeroValue e>>=fun v=>newRow e (old++new++Zr v.cells (cap - (n+k)))>>=fun a=>pure (Zy (some a) (n+k) cap)))
         else(typeInfo e>>=fun i=>if Yk (n+k) c*i.bytes>2^48 then((if z=true then(zw (.error "growslice: len out of range"):Sem PUnit) else Yb size n k b' y'>>=fun s=>if(!s)=true then(mark .noRoom>>=fun _=>unsupported u) else unsupported u)>>=fun _=>
         choose (.appendCap (n+k) c e)>>=fun cap=>typeInfo e>>=fun i=>Zah (cap*i.bytes)>>=fun _=>Zu size n (.slice b' n c)>>=fun old=>
         (if(!z)=true then Zu size k y' else if k*size=0 then pure #[] else zeroValue e>>=fun v=>pure (Zr v.cells k))>>=fun new=>
         zeroValue e>>=fun v=>newRow e (old++new++Zr v.cells (cap - (n+k)))>>=fun a=>pure (Zy (some a) (n+k) cap))
        else
         choose (.appendCap (n+k) c e)>>=fun cap=>typeInfo e>>=fun i=>Zah (cap*i.bytes)>>=fun _=>Zu size n (.slice b' n c)>>=fun old=>
         (if(!z)=true then Zu size k y' else if k*size=0 then pure #[] else zeroValue e>>=fun v=>pure (Zr v.cells k))>>=fun new=>
         zeroValue e>>=fun v=>newRow e (old++new++Zr v.cells (cap - (n+k)))>>=fun a=>pure (Zy (some a) (n+k) cap))):=by
       intro τ z k u hu C6;split
       ·exact STORE τ z k C6
       ·refine Ac _ (Cl T e) fun Dp i i' Ce hi=>?_
        obtain⟨rfl,_⟩:=hi;split
        ·exact Dq T (eu.mono (Ren.le_trans C6 Ce)) _
        ·exact R1 Dp z k u hu (Ren.le_trans C6 Ce)
      cases at_[1]? with
      |none=>
       refine Ac (fun _ z z'=>z=false∧z'=false) (Ad ⟨rfl,rfl⟩) fun τ z z' C6 hz=>?_;obtain⟨rfl,rfl⟩:=hz;refine Ac _ (UN (et.mono C6)) fun Dp k k' Ce hk=>?_;cases hk;exact MAIN Dp false k _ trivial (Ren.le_trans C6 Ce)
      |some xt=>
       dsimp only;refine Ac _ (Ao T xt) fun τ d d' C6 hd=>?_;obtain⟨rfl,_⟩:=hd;refine Ac (fun _ z z'=>z=z') (Ad rfl) fun acn z z' BJ hz=>?_;cases hz;have UO:=Ren.le_trans C6 BJ;cases z with
       |false=>
        refine Ac _ (UN (et.mono UO)) fun Dp k k' Ce hk=>?_;cases hk;exact MAIN Dp false k _ trivial (Ren.le_trans UO Ce)
       |true=>
        refine Ac _ (KO (et.mono UO)) fun Dp l l' Ce hl=>?_;cases hl;have Bg:=Ren.le_trans UO Ce;refine F5 (fun _=>Dq T (eu.mono Bg) _) fun _=>?_;refine Ac _ (Cl T e) fun JB i i' Fb hi=>?_;obtain⟨rfl,_⟩:=hi;have B5:=Ren.le_trans Bg Fb;refine F5 (fun _=>?_) fun _=>?_
        ·refine Ac _ (G2 _) fun G6 m m' bM hm=>?_
         cases hm;exact Dq T (eu.mono (Ren.le_trans B5 bM)) _
        ·refine Ac (fun _ k k'=>k=k') (Ad rfl) fun G6 k k' bM hk=>?_
         cases hk;exact MAIN G6 true k _ trivial (Ren.le_trans B5 bM)
     |_=>exact Ae
    |_=>exact Ae
end
section
variable {P' P:Zp}{fz:Prop}{ρ:Ren}
theorem QT (op:BinOp)(k:IntKind)(x y:Int):Al P' P fz VR ρ (Op.intArith op k x y) (Op.intArith op k x y):=by
 unfold Op.intArith;split<;>first|exact Ad (.int _ _)|exact Ae
theorem TB (op:BinOp)(k:IntKind)(x y:Int):Al P' P fz VR ρ (Op.intBits op k x y) (Op.intBits op k x y):=by
 unfold Op.intBits;dsimp only;split<;>first|exact Ad (.int _ _)|exact Ae
theorem QU (op:BinOp)(x y:Int):Al P' P fz VR ρ (Op.intCmp op x y) (Op.intCmp op x y):=by
 unfold Op.intCmp;split<;>first|exact Ad (.bool _)|exact Ae
theorem G8 (op:BinOp)(x y:ByteArray):Al P' P fz VR ρ (Op.stringOp op x y) (Op.stringOp op x y):=by
 unfold Op.stringOp;dsimp only;split<;>first|exact Ad (.bool _)|exact Ae|skip
 split<;>first|exact Ai|exact Ad (.string _)
theorem ld (T:Twins P' P)(hB:Base P ρ)(op:BinOp)(k:IntKind)(x y:Int):Al P' P fz VR ρ (Op.intDiv op k x y) (Op.intDiv op k x y):=by
 unfold Op.intDiv;split
 ·exact AH T hB _
 ·split<;>first|exact Ad (.int _ _)|exact Ae
theorem qv (T:Twins P' P)(hB:Base P ρ)(op:BinOp)(k:IntKind)(x:Int)(yk:IntKind)(y:Int):Al P' P fz VR ρ (Op.shift op k x yk y) (Op.shift op k x yk y):=by
 unfold Op.shift;split
 ·exact AH T hB _
 ·dsimp only;split<;>first|exact Ad (.int _ _)|exact Ae
theorem qw (op:UnOp){x x':Zc}(hx:VR ρ x x'):Al P' P fz VR ρ (Op.unary op x) (Op.unary op x'):=by
 unfold Op.unary;cases op<;>cases hx<;>first
  |exact QT _ _ _ _
  |exact TB _ _ _ _
  |exact Ad (.bool _)
  |exact Ae
  |skip
 all_goals
  rename_i a a' ha;cases a<;>cases a'<;>first|exact ha.elim|exact Ae|exact Ai
theorem bO (T:Twins P' P)(t:Zs){x x' y y':Zc}(hx:VR ρ x x')(hy:VR ρ y y')(h:x=.nilIface∨y=.nilIface)(hi:∃ms,P.underlying t=some (.interface ms)):Al P' P fz F4 ρ (Y0 t x y) (Y0 t x' y'):=by
 obtain⟨ms,hi⟩:=hi;unfold Y0 Op.maxDepth Op.equalIn;refine Ac _ (Ao T t) fun σ u u' hle hu=>?_;obtain⟨rfl,hu⟩:=hu;rw[hi]at hu;cases hu;rcases h with rfl|rfl
 ·cases hx
  cases hy<;>first|exact Ad rfl|exact Ae
 ·cases hy
  cases hx<;>first|exact Ad rfl|exact Ae
theorem Ll (hT:P'.toTables=P.toTables):∀(d:Nat) (t:Zs) (b:Nat),cellOfByte P' d t b=cellOfByte P d t b
 |0,_,_=>rfl
 |d+1,t,b=>by
  have hu:P'.underlying t=P.underlying t:=by unfold Program.underlying;simp only[hT]
  have hb:∀t,P'.bytesOf t=P.bytesOf t:=fun t=>by unfold Program.bytesOf;rw[hT]
  have hc:∀t,P'.cellsOf t=P.cellsOf t:=fun t=>by unfold Program.cellsOf;rw[hT]
  unfold cellOfByte;rw[hu];cases P.underlying t with
  |none=>rfl
  |some x=>cases x<;>simp only[hb,hc,Ll hT d]
theorem QV (T:Twins P' P)(d:Nat)(e:Zs)(count off:Nat)(bytes:Int):cellAtBytes P' d e count off bytes=cellAtBytes P d e count off bytes:=by
 unfold cellAtBytes;simp only[T.cells,T.bytes,FR T,Ll T.tables]
theorem MI (T:Twins P' P)(at_:Array Zs)(t:Zs){x x' y y':Zc}(hx:VR ρ x x')(hy:VR ρ y y'):Al P' P fz (fun σ v v'=>∃a a',v=.pointer a∧v'=.pointer a'∧Nx σ a a') ρ (YE at_ t #[x,y]) (YE at_ t #[x',y']):=by
 unfold YE;cases hx with
 | @pointer a a' ha=>
  dsimp only;refine Ac _ (KO hy) fun σ n n' hle hn=>?_;cases hn;refine F5 (fun _=>?_) fun _=>?_
  ·cases a<;>cases a'<;>first|exact ha.elim|skip
   ·exact Ai
   ·dsimp only
    refine Ac _ (Wq (hle.1 _ _ ha.1)) fun Bj v v' Av hv=>?_;obtain⟨rfl,rfl⟩:=hv;exact Ad ⟨_,_,rfl,rfl,AR.mono (Ren.le_trans hle Av) ha⟩
  ·refine F5 (fun _=>?_) fun _=>?_
   ·exact .bad trivial
   ·cases a<;>cases a'<;>first|exact ha.elim|skip
    ·exact Ai
    ·dsimp only
     refine Ac _ (MC (hle.1 _ _ ha.1)) fun Bj s s' Av hs=>?_;cases hs;cases s with
     |none=>exact Ai
     |some s=>
      obtain⟨e,k⟩:=s;dsimp only;refine Ac _ CQ fun Ef p p' AV hp=>?_;obtain⟨rfl,rfl⟩:=hp;have MH:=AR.mono (Ren.le_trans hle (Ren.le_trans Av AV)) ha;rw[T.depth,T.cells,QV T,MH.2.1];split
      ·exact Ad ⟨_,_,rfl,rfl,MH.1,rfl,MH.2.2⟩
      ·exact Ai
 |_=>exact Ae
theorem OV (T:Twins P' P)(at_:Array Zs)(t:Zs){x x' y y':Zc}(hx:VR ρ x x')(hy:VR ρ y y'):Al P' P fz VR ρ (YE at_ t #[x,y]) (YE at_ t #[x',y']):=
 (MI T at_ t hx hy).imp fun _ _ _ _ ⟨_,_,h1,h2,h⟩=>by rw[h1,h2];exact .pointer h
theorem H2 (T:Twins P' P)(t:Zs){x x' y y':Zc}(hx:VR ρ x x')(hy:VR ρ y y'):Al P' P fz VR ρ (movedNumber t x y) (movedNumber t x' y'):=by
 unfold movedNumber;refine Ac _ (Ao T t) fun σ d d' hle hd=>?_;obtain⟨rfl,_⟩:=hd;dsimp only;refine F5 (fun _=>.bad trivial) fun _=>?_
 ·have A6:=hx.mono hle
  have G5:=hy.mono hle;have e:=OV (fz:=fz) T #[] t A6 G5;cases A6 with
  | @pointer a a' ha=>
   cases a<;>cases a'<;>first|exact ha.elim|exact e|skip
   dsimp only;refine Ac _ (EV ha) fun Bj p p' Av hp=>?_;obtain⟨b,l⟩:=p;obtain⟨b',l'⟩:=p';obtain⟨hb,hl⟩:=hp;dsimp only at hb hl;subst hl;dsimp only;refine Ac _ (MI T #[] t (.pointer hb) (G5.mono Av)) fun Ef v v' AV hv=>?_;obtain⟨c,c',rfl,rfl,hc⟩:=hv;cases c<;>cases c'<;>first|exact hc.elim|skip
   ·exact Ad (.pointer hc)
   ·unfold asNumber
    exact Ac _ (G1 (.number _ hc)) fun _ _ _ _ hr=>Ad (.pointer ⟨hr,rfl,rfl⟩)
  |Eo h=>exact Ae
  |_=>exact e
theorem OW (hT:Twins P' P)(hB:Base P ρ){a a' b b':Addr}(ha:AR ρ a a')(hb:AR ρ b b'):Al P' P fz F4 ρ (Op.twoPlaces a b) (Op.twoPlaces a' b'):=by
 unfold Op.twoPlaces;have e:(a.block !=b.block)=(a'.block !=b'.block):=by simp only[bne,AR.QM ha hb]
 refine Ac _ CQ fun σ p p' hle hp=>?_;obtain⟨rfl,rfl⟩:=hp;have hbs:=AR.base (hB.mono hle) (ha.mono hle);have e2:decide (a.block≥P'.globals.size)=decide (a'.block≥P.globals.size):=by
  rw[hT.tables];simp only[ge_iff_le, ←Nat.not_lt,hbs]
 dsimp only;rw[e,e2];refine F5 (fun _=>.bad trivial) fun _=>?_;refine Ac _ (G4 hT (ha.mono hle)) fun Bj x x' Ce hx=>?_;cases hx;refine Ac _ (G4 hT (hb.mono (Ren.le_trans hle Ce))) fun Ef y y' Fb hy=>?_;cases hy;exact Ad rfl
theorem gV (T:Twins P' P)(hB:Base P ρ)(k:IntKind){a a' b b':Addr}(ha:AR ρ a a')(hb:AR ρ b b'):Al P' P fz VR ρ (Op.addrSub k a b) (Op.addrSub k a' b'):=by
 unfold Op.addrSub;refine Ac _ (OW T hB ha hb) fun σ p p' _ hp=>?_;cases hp;exact Ad (.int _ _)
theorem gW (T:Twins P' P)(hB:Base P ρ)(op:BinOp){a a' b b':Addr}(ha:AR ρ a a')(hb:AR ρ b b'):Al P' P fz VR ρ (Op.addrCmp op a b) (Op.addrCmp op a' b'):=by
 unfold Op.addrCmp;refine Ac _ (OW T hB ha hb) fun σ p p' _ hp=>?_;cases hp;dsimp only;split<;>first|exact Ad (.bool _)|exact Ai
theorem TC (T:Twins P' P)(k:IntKind){a a':Addr}(ha:AR ρ a a')(n:Int):Al P' P fz VR ρ (Op.addrMod k a n) (Op.addrMod k a' n):=by
 unfold Op.addrMod;refine Ac _ (MC ha.1) fun σ s s' hle hs=>?_;cases hs;cases s with
 |none=>exact Ai
 |some s=>
  obtain⟨e,m⟩:=s;dsimp only;refine Ac _ (Cl T e) fun Bj i i' Ce hi=>?_;obtain⟨rfl,_⟩:=hi;refine F5 (fun _=>.bad trivial) fun _=>?_;refine Ac _ (G4 T (ha.mono (Ren.le_trans hle Ce))) fun Ef x x' Fb hx=>?_;cases hx;exact Ad (.int _ _)
theorem QW (T:Twins P' P)(t:Zs){x x' y y':Zc}(hx:VR ρ x x')(hy:VR ρ y y'):Al P' P fz VR ρ (movedPointer t x y) (movedPointer t x' y'):=by
 unfold movedPointer;have e:∀σ,ρ.le σ→Al P' P fz VR σ (YE #[] t #[x,y]) (YE #[] t #[x',y']):=fun σ hσ=>OV T #[] t (hx.mono hσ) (hy.mono hσ);cases hx with
 | @pointer a a' ha=>
  cases a<;>cases a'<;>first|exact ha.elim|exact e _ (Ren.le_refl _)|skip
  dsimp only;refine Ac _ (QN ha.1) fun σ s s' hle hs=>?_;rcases hs with⟨rfl,rfl⟩|⟨u,v,l,rfl,rfl,_⟩
  ·exact e σ hle
  ·exact .bad trivial
 |Eo h=>exact Ae
 |_=>exact e _ (Ren.le_refl _)
end
section
variable {P' P:Zp}{fz:Prop}{ρ:Ren}
theorem MJ {α β:Type}{Q:Ren→α→β→Prop}{a a':Addr}(ha:AR ρ a a'){f:Addr×Bool→Sem α}{f':Addr×Bool→Sem β}(hf:∀σ b b' l,ρ.le σ→AR σ b b'→Al P' P fz Q σ (f (b,l)) (f' (b',l))):
  Al P' P fz Q ρ (behindNumber a>>=f) (behindNumber a'>>=f'):=
 Ac _ (EV ha) fun σ p p' hle hp=>by
  obtain⟨b,l⟩:=p;obtain⟨b',l'⟩:=p';obtain⟨h1,h2⟩:=hp;dsimp only at h1 h2;subst h2;exact hf σ b b' l hle h1
theorem Jc (op:BinOp)(t:Zs)(a b:ByteArray):binOp op t (.string a) (.string b)=Op.stringOp op a b:=by cases op<;>rfl
theorem bP (T:Twins P' P)(hB:Base P ρ)(op:BinOp)(t:Zs){x x' y y':Zc}(hop:op≠ .eql∧op≠ .neq)(hx:VR ρ x x')(hy:VR ρ y y'):Al P' P fz VR ρ (binOp op t x y) (binOp op t x' y'):=by
 cases hx with
 |int k a=>
  cases hy with
  |int k' b=>
   cases op<;>first|exact absurd rfl hop.1|exact absurd rfl hop.2|skip
   all_goals unfold binOp
   all_goals first
    |exact qv T hB _ _ _ _ _
    |(dsimp only;refine F5 (fun _=>Ae) fun _=>?_)
   all_goals first|exact QT _ _ _ _|exact ld T hB _ _ _ _|exact TB _ _ _ _|exact QU _ _ _
  | @pointer b b' hb=>
   cases op<;>first|exact absurd rfl hop.1|exact absurd rfl hop.2|skip
   all_goals unfold binOp
   all_goals first
    |exact H2 T t (.pointer hb) (.int k a)
    |exact Ai
    |skip
   all_goals cases b<;>cases b'<;>first|exact hb.elim|exact Ai|skip
   all_goals exact MJ hb fun σ c c' l _ hc=>TC T k hc _
  |_=>cases op<;>first|exact absurd rfl hop.1|exact absurd rfl hop.2|exact Ae
 | @pointer a a' ha=>
  cases hy with
  |int k b=>
   cases op<;>first|exact absurd rfl hop.1|exact absurd rfl hop.2|skip
   all_goals unfold binOp
   all_goals first
    |exact Ai
    |exact H2 T t (.pointer ha) (.int k _)
    |skip
   case add=>
    refine Ac _ (Ao T t) fun σ d d' hle hd=>?_;obtain⟨rfl,_⟩:=hd;refine F5 (fun _=>?_) fun _=>?_
    ·exact QW T t ((VR.pointer ha).mono hle) (.int k b)
    ·exact H2 T t ((VR.pointer ha).mono hle) (.int k b)
   all_goals cases a<;>cases a'<;>first|exact ha.elim|exact Ai|skip
   all_goals exact MJ ha fun σ c c' l _ hc=>TC T k hc _
  | @pointer b b' hb=>
   cases op<;>first|exact absurd rfl hop.1|exact absurd rfl hop.2|skip
   all_goals unfold binOp
   all_goals first|exact Ai|skip
   all_goals cases a<;>cases a'<;>first|exact ha.elim|exact Ai|skip
   all_goals cases b<;>cases b'<;>first|exact hb.elim|exact Ai|skip
   all_goals refine MJ ha fun σ c c' l BJ hc=>MJ (AR.mono BJ hb) fun Bj d d' m Ce hd=>?_
   all_goals first|exact gV T (hB.mono (Ren.le_trans BJ Ce)) _ (hc.mono Ce) hd|exact gW T (hB.mono (Ren.le_trans BJ Ce)) _ (hc.mono Ce) hd
  |_=>(cases a<;>cases a'<;>first|exact ha.elim|skip)<;>(cases op<;>first|exact absurd rfl hop.1|exact absurd rfl hop.2|exact Ai)
 |string a=>
  cases hy with
  |string b=>cases op<;>first|exact absurd rfl hop.1|exact absurd rfl hop.2|(rw[Jc];exact G8 _ _ _)
  |pointer hb=>cases op<;>first|exact absurd rfl hop.1|exact absurd rfl hop.2|exact Ai
  |_=>cases op<;>first|exact absurd rfl hop.1|exact absurd rfl hop.2|exact Ae
 |_=>
  cases hy with
  |pointer hb=>cases op<;>first|exact absurd rfl hop.1|exact absurd rfl hop.2|exact Ai
  |_=>cases op<;>first|exact absurd rfl hop.1|exact absurd rfl hop.2|exact Ae
theorem UQ (Q:Zp)(t:Zs)(x y:Zc)(h:x=.tuple #[]∨y=.tuple #[]):∀(w:Zb) (es:Array ZU),∃z u f,(Y0 t x y).runT Q w es=(.halt z u,f)∧GG z:=by
 intro w es;have e:Y0 t x y=Op.equalIn (9999+1) t x y:=rfl;rw[e,Op.equalIn];show∃z u f,((underlying t).bind _).runT Q w es=(.halt z u,f)∧GG z;rw[Z8];have hu:(∃d,(underlying t).runT Q w es=(.ok d w,es))∨∃z,(underlying t).runT Q w es=(.halt z w,es)∧GG z:=by
  cases hq:Q.underlying t with
  |none=>exact .inr ⟨.stuck "no such type",by unfold underlying;simp[-Z5,bind,Sem.bind,program,ZF,hq,stuck],trivial⟩
  |some d=>exact .inl ⟨d,by unfold underlying;simp[-Z5,bind,Sem.bind,program,ZF,hq,pure]⟩
 rcases hu with⟨d,hd⟩|⟨z,hz,hd⟩
 ·rw[hd]
  dsimp only;rcases h with rfl|rfl
  all_goals
   split
   all_goals first|exact⟨_,_,_,rfl,trivial⟩|(exfalso;simp_all;done)
 ·rw[hz]
  exact⟨_,_,_,rfl,hd⟩
theorem qy (T:Twins P' P)(hB:Base P ρ)(m:Nat)(op:BinOp)(t:Zs){x x' y y':Zc}(hop:op=.eql∨op=.neq)
  (h:Ja P m t=true∨((∃ms,P.underlying t=some (.interface ms))∧(x=.nilIface∨y=.nilIface))) (hx:VR ρ x x') (hy:VR ρ y y'):Al P' P fz VR ρ (binOp op t x y) (binOp op t x' y'):=by
 have key:Al P' P fz F4 ρ (Y0 t x y) (Y0 t x' y'):=by
  rcases h with h|⟨hi,hn⟩
  ·exact QP T m t hB h hx hy
  ·exact bO T t hx hy hn hi
 have e1:Al P' P fz VR ρ (Y0 t x y>>=fun b=>pure (.bool b)) (Y0 t x' y'>>=fun b=>pure (.bool b)):=Ac _ key fun _ _ _ _ hb=>by cases hb;exact Ad (.bool _)
 have e2:Al P' P fz VR ρ (Y0 t x y>>=fun b=>pure (.bool !b)) (Y0 t x' y'>>=fun b=>pure (.bool !b)):=Ac _ key fun _ _ _ _ hb=>by cases hb;exact Ad (.bool _)
 clear key h;by_cases hw:x=.tuple #[]∨y=.tuple #[]
 ·have hd:=UQ P' t x y hw
  rcases hop with rfl|rfl
  ·have e:binOp .eql t x y=(Y0 t x y).bind fun b=>pure (.bool b):=by rcases hw with rfl|rfl<;>first|(cases y<;>rfl)|(cases x<;>rfl)
   rw[e];exact .G0 (J3 hd _)
  ·have e:binOp .neq t x y=(Y0 t x y).bind fun b=>pure (.bool !b):=by rcases hw with rfl|rfl<;>first|(cases y<;>rfl)|(cases x<;>rfl)
   rw[e];exact .G0 (J3 hd _)
 rcases hop with rfl|rfl
 ·cases hx with
  |int k a=>
   cases hy with
   |int k' b=>
    unfold binOp;exact F5 (fun _=>Ae) fun _=>QU _ _ _
   |Eo h=>exact absurd (.inr rfl) hw
   |_=>exact e1
  |string a=>
   cases hy with
   |string b=>rw[Jc];exact G8 _ _ _
   |Eo h=>exact absurd (.inr rfl) hw
   |_=>exact e1
  |Eo h=>exact absurd (.inl rfl) hw
  |_=>cases hy<;>first|exact e1|exact absurd (.inr rfl) hw
 ·cases hx with
  |int k a=>
   cases hy with
   |int k' b=>
    unfold binOp;exact F5 (fun _=>Ae) fun _=>QU _ _ _
   |Eo h=>exact absurd (.inr rfl) hw
   |_=>exact e2
  |string a=>
   cases hy with
   |string b=>rw[Jc];exact G8 _ _ _
   |Eo h=>exact absurd (.inr rfl) hw
   |_=>exact e2
  |Eo h=>exact absurd (.inl rfl) hw
  |_=>cases hy<;>first|exact e2|exact absurd (.inr rfl) hw
theorem LH:∀(m:Nat) (d:Nat) (t:Zs),m≤d→Ja P m t=true→P.eqGuardType d t=false
 |0,_,_,_,h=>by cases h
 |m+1,0,_,hd,_=>by omega
 |m+1,d+1,t,hd,h=>by
  unfold Ja at h;unfold Program.eqGuardType;cases hu:P.underlying t with
  |none=>rfl
  |some x=>
   rw[hu]at h;cases x with
   |struct fs=>
    dsimp only at h⊢;rw[Yc]at h;rw[Bool.eq_false_iff];intro hx;rw[Array.any_eq_true']at hx;obtain⟨f,hf,hb⟩:=hx;rw[LH m d f.type (by omega) (h f hf),Bool.and_false]at hb;cases hb
   |array n e=>exact LH m d e (by omega) h
   |interface ms=>cases h
   |_=>rfl
theorem J7 (T:Twins P' P):∀(d:Nat) (t:Zs),P'.eqGuardType d t=P.eqGuardType d t
 |0,_=>rfl
 |d+1,t=>by
  unfold Program.eqGuardType;rw[T.wG];cases P.underlying t with
  |none=>rfl
  |some x=>cases x<;>simp only[J7 T d]
theorem gX (T:Twins P' P)(m:Nat)(hm:m≤P.depth)(op:BinOp)(t:Zs)(u v:Operand){x x' y y':Zc}(h:(op=.eql∨op=.neq)→Ja P m t=true∨(∃c,(u=.const c∧c=x∧x=.nilIface)∨(v=.const c∧c=y∧y=.nilIface)))
  (hx:VR ρ x x') (hy:VR ρ y y'):Al P' P fz F4 ρ (eqGuard op t u v x y) (eqGuard op t u v x' y'):=by
 unfold eqGuard;refine F5 (fun _=>Ad rfl) fun hc=>?_;have hop:op=.eql∨op=.neq:=by cases op<;>first|exact .inl rfl|exact .inr rfl|exact absurd rfl hc
 replace h:=h hop;clear hc;cases hx with
 |nilIface=>
  cases hy with
  |nilIface=>
   dsimp only;refine F5 (fun _=>Ad rfl) fun _=>?_;refine Ac F4 ?_ fun σ b b' _ hb=>?_
   ·unfold Op.maxDepth Op.eqGuardIn
    refine Ac _ (Ao T t) fun σ d d' hle hd=>?_;obtain⟨rfl,_⟩:=hd;cases d<;>exact Ad rfl
   ·cases hb
    exact F5 (fun _=>Ai) fun _=>Ad rfl
  |Eo h=>cases y'<;>first|(cases h;done)|exact Ad rfl
  |_=>exact Ad rfl
 |agg hxc hxv=>
  cases hy with
  |agg hyc hyv=>
   dsimp only;rcases h with h|⟨c,⟨_,_,h⟩|⟨_,_,h⟩⟩
   ·refine Ac _ CQ fun σ p p' hle hp=>?_
    obtain⟨rfl,rfl⟩:=hp;refine Ac _ CQ fun Bj p p' Av hp=>?_;obtain⟨rfl,rfl⟩:=hp;rw[J7 T,T.depth,LH m P.depth t hm h];exact Ad rfl
   ·cases h
   ·cases h
  |Eo h=>cases y'<;>first|(cases h;done)|exact Ad rfl
  |_=>exact Ad rfl
 |Eo h=>cases x'<;>first|(cases h;done)|(cases hy<;>first|exact Ad rfl|(rename_i h2;cases y'<;>first|(cases h2;done)|exact Ad rfl))
 |_=>cases hy<;>first|exact Ad rfl|(rename_i h2;cases y'<;>first|(cases h2;done)|exact Ad rfl)
def bQ (P:Zp)(src dst:Zs):Bool:=
 match P.underlying src,P.underlying dst with
 |some (.int _),some (.int _)=>true
 |some (.slice e),some .string=>(match P.underlying e with|some (.int .u8)=>true|_=>false)
 |_,_=>false
theorem PY {x x':Zc}(hx:VR ρ x x'):Al P' P fz VR ρ (Zaf x) (Zaf x'):=by
 unfold Zaf;cases hx with
 | @slice a a' n c ha=>
  cases a<;>cases a'<;>first|exact ha.elim|skip
  ·exact Ad (.string _)
  ·dsimp only
   refine Ac _ (J4 ha n) fun σ z z' hle hz=>?_;refine Ac F4 (kU hz rfl fun τ u v b b' _ lg hb=>?_) fun τ s s' _ hs=>?_
   ·cases hb
    cases lg with
    |int k m=>cases k<;>first|exact Ae|exact Ad (.yield rfl)
    |_=>exact Ae
   ·cases hs;exact Ad (.string _)
 |_=>exact Ae
theorem gY (T:Twins P' P)(src dst:Zs)(h:bQ P src dst=true){x x':Zc}(hx:VR ρ x x'):Al P' P fz VR ρ (convert src dst x) (convert src dst x'):=by
 unfold convert;refine Ac _ (Ao T src) fun σ d d' hle hd=>?_;obtain⟨rfl,hd⟩:=hd;refine Ac _ (Ao T dst) fun Bj e e' Av he=>?_;obtain⟨rfl,he⟩:=he;have A6:=hx.mono (Ren.le_trans hle Av);unfold bQ at h;rw[hd,he]at h;cases d with
 |int k=>
  cases e with
  |int k'=>
   cases A6 with
   |int k n=>exact Ad (.int _ _)
   | @pointer a a' ha=>cases a<;>cases a'<;>first|exact ha.elim|exact Ai
   |_=>exact Ai
  |_=>cases h
 |slice el=>
  cases e with
  |string=>
   have rest:Al P' P fz VR Bj (underlying el>>=fun u=>match u with
     | .int .u8=>Zaf x
     | .int .i32=>Conv.runesToString x
     |_=>stuck "Convert: a slice of what to string?") (underlying el>>=fun u=>match u with
     | .int .u8=>Zaf x'
     | .int .i32=>Conv.runesToString x'
     |_=>stuck "Convert: a slice of what to string?"):=by
    refine Ac _ (Ao T el) fun Ef u u' AV hu=>?_;obtain⟨rfl,hu⟩:=hu;dsimp only at h;rw[hu]at h;cases u with
    |int k=>cases k<;>first|exact PY (A6.mono AV)|cases h
    |_=>cases h
   cases A6 with
   |int k n=>exact Ad (.string _)
   |string s=>exact Ad (.string _)
   | @slice a a' n c ha=>cases a<;>cases a'<;>first|exact ha.elim|exact rest
   | @pointer a a' ha=>cases a<;>cases a'<;>first|exact ha.elim|exact rest
   |Eo hw=>cases x'<;>first|(cases hw;done)|exact rest|(rename_i a;cases a<;>first|(cases hw;done)|exact rest)|(rename_i a _ _;cases a<;>first|(cases hw;done)|exact rest)
   |_=>exact rest
  |_=>cases h
 |_=>cases h
end
section
variable {P' P:Zp}{fz:Prop}{ρ:Ren}
theorem wP {x x' y y':Zc}(hx:VR ρ x x')(hy:VR ρ y y'):Al P' P fz VR ρ (Builtin.max2 x y) (Builtin.max2 x' y'):=by
 unfold Builtin.max2;cases hx with
 |int k a=>
  cases hy with
  |int k' b=>exact Ad (.int _ _)
  | @pointer b b' hb=>cases b<;>cases b'<;>first|exact hb.elim|exact Ai|exact Ae
  |_=>exact Ae
 |string a=>
  cases hy with
  |string b=>
   dsimp only;refine Ac _ (G8 _ _ _) fun σ u v _ lg=>?_;refine Ac _ (QK lg) fun Bj u v _ lg=>?_;cases lg;exact Ad (.string _)
  | @pointer b b' hb=>cases b<;>cases b'<;>first|exact hb.elim|exact Ai|exact Ae
  |_=>exact Ae
 | @pointer a a' ha=>
  cases a<;>cases a'<;>first|exact ha.elim|skip
  ·cases hy with
   | @pointer b b' hb=>cases b<;>cases b'<;>first|exact hb.elim|exact Ai|exact Ae
   |_=>exact Ae
  ·cases hy<;>exact Ai
 |_=>
  cases hy with
  | @pointer b b' hb=>cases b<;>cases b'<;>first|exact hb.elim|exact Ai|exact Ae
  |_=>exact Ae
theorem WB {f g:Zc→Zc→Sem Zc}(hf:∀ρ x x' y y',VR ρ x x'→VR ρ y y'→Al P' P fz VR ρ (f x y) (g x' y')):∀ {l l':List Zc} {ρ:Ren} {x x':Zc},VR ρ x x'→Eg (VR ρ) l l'→Al P' P fz VR ρ (l.foldlM f x) (l'.foldlM g x'):=by
 intro l
 induction l with
 |nil=>intro l' ρ x x' hx hl;cases hl;exact Ad hx
 |cons y l ih=>
  intro l' ρ x x' hx hl;cases hl with
  |cons hy ht=>
   rw[List.foldlM_cons,List.foldlM_cons];exact Ac _ (hf ρ _ _ _ _ hx hy) fun σ u v hle lg=>ih lg (ht.mono fun _ _=>VR.mono hle)
theorem acr (at_:Array Zs)(t:Zs){a a':Array Zc}(h:BN ρ a a'):Al P' P fz VR ρ (Builtin.max_ at_ t a) (Builtin.max_ at_ t a'):=by
 unfold Builtin.max_;have hl:=h.list;generalize a.toList=l at hl⊢;generalize a'.toList=l' at hl⊢;cases hl with
 |nil=>exact Ae
 |cons hx ht=>exact WB (fun _ _ _ _ _=>wP) hx ht
theorem wQ {x x' y y':Zc}(hx:VR ρ x x')(hy:VR ρ y y'):Al P' P fz VR ρ (Builtin.min2 x y) (Builtin.min2 x' y'):=by
 unfold Builtin.min2;cases hx with
 |int k a=>
  cases hy with
  |int k' b=>exact Ad (.int _ _)
  | @pointer b b' hb=>cases b<;>cases b'<;>first|exact hb.elim|exact Ai|exact Ae
  |_=>exact Ae
 |string a=>
  cases hy with
  |string b=>
   dsimp only;refine Ac _ (G8 _ _ _) fun σ u v _ lg=>?_;refine Ac _ (QK lg) fun Bj u v _ lg=>?_;cases lg;exact Ad (.string _)
  | @pointer b b' hb=>cases b<;>cases b'<;>first|exact hb.elim|exact Ai|exact Ae
  |_=>exact Ae
 | @pointer a a' ha=>
  cases a<;>cases a'<;>first|exact ha.elim|skip
  ·cases hy with
   | @pointer b b' hb=>cases b<;>cases b'<;>first|exact hb.elim|exact Ai|exact Ae
   |_=>exact Ae
  ·cases hy<;>exact Ai
 |_=>
  cases hy with
  | @pointer b b' hb=>cases b<;>cases b'<;>first|exact hb.elim|exact Ai|exact Ae
  |_=>exact Ae
theorem acs (at_:Array Zs)(t:Zs){a a':Array Zc}(h:BN ρ a a'):Al P' P fz VR ρ (Builtin.min_ at_ t a) (Builtin.min_ at_ t a'):=by
 unfold Builtin.min_;have hl:=h.list;generalize a.toList=l at hl⊢;generalize a'.toList=l' at hl⊢;cases hl with
 |nil=>exact Ae
 |cons hx ht=>exact WB (fun _ _ _ _ _=>wQ) hx ht
theorem qz (T:Twins P' P)(hB:Base P ρ){x x':Zc}(hx:VR ρ x x'):Al P' P fz VR ρ (Instr.panic x) (Instr.panic x'):=by
 unfold Instr.panic;cases hx with
 |iface t h=>exact Eb (.iface t h)
 |nilIface=>
  dsimp only;refine Ac F4 ?_ fun σ b b' hle hb=>?_
  ·unfold Instr.panicnil
   refine Ac F4 (.env fun r=>.pure rfl) fun σ r r' _ hr=>?_;cases hr;cases r with
   |strings env=>
    dsimp only;refine Ac _ CQ fun Bj p p' _ hp=>?_;obtain⟨rfl,rfl⟩:=hp;rw[T.tables];exact Ad rfl
   |_=>exact Ae
  ·cases hb
   exact F5 (fun _=>Eb .nilIface) fun _=>AH T (hB.mono hle) _
 |_=>exact Ae
inductive bn (σ:Ren):Next→Next→Prop
 |value {v v':Zc} (h:VR σ v v'):bn σ (.value v) (.value v')
 |skip:bn σ .skip .skip
 |enter {f:YT} {a a':Array Zc} (hf:σ.ok f=true∨σ.ok.dir f a.size=true) (h:BN σ a a'):bn σ (.enter f a) (.enter f a')
 |round {l l':Nat} (hl:σ l=some l') {f:YT} (hf:σ.ok.Mz f=true∧σ.sp f=false) {t t':Array Zc} (ht:BN σ t t') {as b:Code} (has:σ.good as=true) (hb:σ.good b=true):bn σ (.round l f t as b) (.round l' f t' as b)
structure CC (P' P:Zp)(ok:OL):Prop where
 has:∀f,(ok f=true∨∃n,ok.dir f n=true)→∃fn Qj,P'.funcs[f]?=some fn∧P.funcs[f]?=some Qj∧fn.body.isSome=true∧Qj.body.isSome=true∧(fn.name== "runtime.NumGoroutine")=false∧(Qj.name== "runtime.NumGoroutine")=false
theorem QX (S:CC P' P ρ.ok){f:YT}{a:Array Zc}(hf:ρ.ok f=true∨ρ.ok.dir f a.size=true){a':Array Zc}(h:BN ρ a a'):Al P' P fz bn ρ (Zz f a) (Zz f a'):=by
 unfold Zz;obtain⟨fn,Qj,e1,e2,b1,b2,n1,n2⟩:=S.has f (hf.imp id fun h=>⟨_,h⟩);refine Ac _ CQ fun σ p p' hle hp=>?_;obtain⟨rfl,rfl⟩:=hp;rw[e1,e2];have c1:fn.body.isNone=false:=by rw[Option.isNone_eq_false_iff];exact b1
 have c2:Qj.body.isNone=false:=by rw[Option.isNone_eq_false_iff];exact b2
 dsimp only;rw[n1,n2,c1,c2];exact Ad (.enter (by rw[hle.2.1];exact hf) (BN.mono hle h))
theorem Iu {l l':Nat}(h:ρ l=some l'):Al P' P fz LpR ρ (Instr.getLoop l) (Instr.getLoop l'):=by
 unfold Instr.getLoop;refine Ac _ (CX h) fun σ o o' _ ho=>?_;cases ho with
 |loop hl=>exact Ad hl
 |_=>exact Ae
theorem WC {fn:YT}(Hp:ρ.ok.Mz fn=true∧ρ.sp fn=false){t t':Array Zc}(ht:BN ρ t t')(ps:Array Tmp){as b:Code}(has:ρ.good as=true)(hb:ρ.good b=true){ar ar':Option Nat}(tT:QG ρ ar ar'):
  Al P' P fz (fun σ p p'=>σ p.1=some p'.1∧Eg (d_ σ) p.2 p'.2) ρ (YU fn t ps as b ar) (YU fn t' ps as b ar'):=by
 unfold YU;have tail:∀σ (p p':Nat×List Deferred),ρ.le σ→σ p.1=some p'.1→Eg (d_ σ) p.2 p'.2→
   Al P' P fz (fun σ p p'=>σ p.1=some p'.1∧Eg (d_ σ) p.2 p'.2) σ
    (newObj (.loop {state:=.ready,pending:=none,fn,tmps:=t,params:=ps,assign:=as,body:=b,defers:=p.1})>>=fun r=>pure (r,p.2))
    (newObj (.loop {state:=.ready,pending:=none,fn,tmps:=t',params:=ps,assign:=as,body:=b,defers:=p'.1})>>=fun r=>pure (r,p'.2)):=by
  intro σ p p' hle hd hm;refine Ac _ (G1 (.loop ⟨rfl,rfl,rfl,BN.mono hle ht,rfl,rfl,rfl,by rw[hle.2.1,hle.2.2.2];exact Hp,⟨by rw[hle.2.2.1];exact has,by rw[hle.2.2.1];exact hb,fun _ h=>(by cases h)⟩,hd⟩)) fun τ r r' C6 hr=>Ad ⟨hr,hm.mono fun _ _=>d_.mono C6⟩
 cases ar<;>cases ar'<;>first|exact tT.elim|skip
 ·dsimp only
  refine Ac _ (G1 .deferred) fun σ r r' hle hr=>?_;exact Ac (fun σ p p'=>σ p.1=some p'.1∧Eg (d_ σ) p.2 p'.2) (Ad ⟨hr,.cons (.mk hr) .nil⟩) fun τ p p' C6 hp=>tail τ p p' (Ren.le_trans hle C6) hp.1 hp.2
 ·dsimp only
  refine Ac _ (Iu tT) fun σ l l' hle hl=>?_;exact Ac (fun σ p p'=>σ p.1=some p'.1∧Eg (d_ σ) p.2 p'.2) (Ad ⟨hl.defers,.nil⟩) fun τ p p' C6 hp=>tail τ p p' (Ren.le_trans hle C6) hp.1 hp.2
theorem qA {l l':Nat}(h:ρ l=some l'){a a':Array Zc}(ha:BN ρ a a'):Al P' P fz bn ρ (Instr.yield l a) (Instr.yield l' a'):=by
 unfold Instr.yield;refine Ac _ (Iu h) fun σ r r' hle hr=>?_;rw[hr.params,ha.1];refine F5 (fun _=>.bad trivial) fun _=>?_;rw[hr.fn,hr.assign,hr.body];refine Ad (.round (hle.1 _ _ h) hr.run ?_ hr.fine.1 hr.fine.2.1);have hal:=(BN.mono hle ha).list;have key:∀(ps:List Tmp) {l l':List Zc},Eg (VR σ) l l'→∀ {t t':Array Zc},BN σ t t'→BN σ ((ps.zip l).foldl (fun ts (x:Tmp×Zc)=>ts.setIfInBounds x.1 x.2) t) ((ps.zip l').foldl (fun ts (x:Tmp×Zc)=>ts.setIfInBounds x.1 x.2) t'):=by
  intro ps
  induction ps with
  |nil=>intro l l' _ t t' ht;exact ht
  |cons p ps ih=>intro l l' hl t t' ht;cases hl with
   |nil=>exact ht
   |cons hx bp=>exact ih bp (ht.set hx p)
 have e:∀(b:Array Zc) (ts:Array Zc),(r.params.zip b).foldl (fun tmps (x:Tmp×Zc)=>match x with|(t,a)=>tmps.setIfInBounds t a) ts=(r.params.toList.zip b.toList).foldl (fun ts (x:Tmp×Zc)=>ts.setIfInBounds x.1 x.2) ts:=by
  intro b ts;rw[←Array.foldl_toList,Array.toList_zip]
 rw[e,e];exact key _ hal hr.tmps
theorem UR (T:Twins P' P)(hB:Base P ρ){l l':Nat}(h:ρ l=some l'):Al P' P fz F4 ρ (Zap l) (Zap l'):=by
 unfold Zap;refine Ac _ (Iu h) fun σ r r' hle hr=>?_;refine Ac _ (DU (hle.1 _ _ h) (.loop {hr with state:=rfl})) fun τ _ _ C6 _=>?_;rw[hr.state];split
 ·exact Ad rfl
 all_goals exact AH T (hB.mono (Ren.le_trans hle C6)) _
theorem bR {l l':Nat}(h:ρ l=some l')(j:Option Code)(hj:∀c,j=some c→ρ.good c=true):Al P' P fz VR ρ (ZaM l j) (ZaM l' j):=by
 unfold ZaM;refine Ac _ (Iu h) fun σ r r' hle hr=>?_;refine Ac _ (DU (hle.1 _ _ h) (.loop {hr with state:=rfl,pending:=rfl,fine:=⟨hr.fine.1,hr.fine.2.1,by rw[hle.2.2.1];exact hj⟩})) fun τ _ _ C6 _=>?_;exact Ad (.bool _)
theorem gZ (T:Twins P' P)(hB:Base P ρ){l l':Nat}(h:ρ l=some l'):Al P' P fz (fun σ j j'=>j=j'∧∀c,j=some c→σ.good c=true) ρ (Zar l) (Zar l'):=by
 unfold Zar;refine Ac _ (Iu h) fun σ r r' hle hr=>?_;rw[hr.state];refine F5 (fun _=>Dq T (hB.mono hle) _) fun _=>?_;refine Ac _ (DU (hle.1 _ _ h) (.loop {hr with state:=rfl})) fun τ _ _ C6 _=>?_;rw[hr.pending];exact Ad ⟨rfl,by rw[C6.2.2.1];exact hr.fine.2.2⟩
theorem QY {b b':Nat}(h:ρ b=some b'):Al P' P fz (fun _ l l'=>l=[]∧l'=[]) ρ (Yj b) (Yj b'):=by
 unfold Yj;refine Ac _ (CX h) fun σ o o' hle ho=>?_;cases ho with
 |deferred=>exact Ac _ (DU (hle.1 _ _ h) .EU) fun τ _ _ C6 _=>Ad ⟨rfl,rfl⟩
 |_=>exact Ae
theorem g8 (T:Twins P' P)(hB:Base P ρ){b:Builtin}(hb:okB b=true)(at_:Array Zs)(t:Zs)(c:Array Bool){a a':Array Zc}(h:BN ρ a a'):Al P' P fz bn ρ (builtin b at_ t c a) (builtin b at_ t c a'):=by
 have v:∀ {s s':Sem Zc},Al P' P fz VR ρ s s'→Al P' P fz bn ρ (s>>=fun x=>pure (.value x)) (s'>>=fun x=>pure (.value x)):=fun h=>Ac _ h fun _ _ _ _ hv=>Ad (.value hv);unfold builtin;cases b<;>first|cases hb|skip
 ·exact v (k_ T hB at_ t h)
 ·exact v (acm T at_ t h)
 ·exact v (wN T at_ t h)
 ·exact v (ack T at_ t h)
 ·exact v (acr at_ t h)
 ·exact v (acs at_ t h)
theorem WE (T:Twins P' P)(hB:Base P ρ)(S:CC P' P ρ.ok){t t':Target}(ht:TgR ρ t t'){a a':Array Zc}(h:BN ρ a a'):Al P' P fz bn ρ (invoke t a) (invoke t' a'):=by
 unfold invoke;cases ht with
 |nil=>exact AH T hB _
 |builtin hb at_ t c=>exact g8 T hB hb at_ t c h
 |collected hr=>exact Ae
 |fn hf hc=>
  cases hf with
  |func hf=>exact QX S (.inl hf) (h.append hc)
  |yield hl=>exact qA hl h
end
def OX:Nat→Zc→Bool
 |0,_=>false
 |n+1,v=>match v with
  | .bool _| .int _ _| .string _| .nilFunc| .nilIface| .pointer none| .slice none _ _| .map none| .chan none=>true
  | .agg cs=>cs.all (OX n)
  | .tuple cs=>cs.all (OX n)
  | .iface _ v=>OX n v
  |_=>false
theorem KP:∀(n:Nat) {v:Zc} {ρ:Ren},OX n v=true→VR ρ v v
 |0,_,_,h=>by cases h
 |n+1,v,ρ,h=>by
  have all:∀cs:Array Zc,cs.all (OX n)=true→BN ρ cs cs:=by
   intro cs hc;refine⟨rfl,fun i x y hx hy=>?_⟩;rw[hx]at hy;cases hy;rw[Yc]at hc;exact KP n (hc x (zM hx))
  cases v with
  |bool b=>exact .bool b
  |int k m=>exact .int k m
  |string s=>exact .string s
  |nilFunc=>exact .nilFunc
  |nilIface=>exact .nilIface
  |pointer a=>cases a with
   |none=>exact .pointer trivial
   |some a=>cases h
  |slice a l c=>cases a with
   |none=>exact .slice l c trivial
   |some a=>cases h
  |map r=>cases r with
   |none=>exact .map trivial
   |some a=>cases h
  |chan r=>cases r with
   |none=>exact .chan trivial
   |some a=>cases h
  |agg cs=>exact .PU (all cs h)
  |tuple cs=>exact .tuple' (all cs h)
  |iface t v=>exact .iface t (KP n h)
  |_=>cases h
def g9 (_G:Nat)(ok:OL)(dead:Nat→Bool):Operand→Bool
 | .tmp t=> !dead t
 | .const v=>OX 8 v
 | .global _=>false
 | .func f=>ok f
def okC (G:Nat)(ok:OL)(dead:Nat→Bool)(c:Call):Bool:=
 (match c.callee with| .value (.func f)=>ok.dir f c.args.size| .value f=>g9 G ok dead f| .builtin b=>okB b| .invoke _ _=>false)&&c.args.all (g9 G ok dead)
def J8:Operand→Bool
 | .const .nilIface=>true
 |_=>false
def BL:Nat:=12
def WG (P:Zp)(t:Zs):Bool:=match P.underlying t with|some (.map k _)=>Ws P BL k|_=>true
def qB (P:Zp)(ok:OL)(dead:Nat→Bool)(op:Op):Bool:=
 let G:=P.globals.size
 let X:=g9 G ok dead
 match op with
 | .move x| .assign x| .box _ x| .load _ x| .nilCheck x| .unOp _ _ x| .makeInterface _ x| .fieldAddr _ x _| .field _ x _| .range _ x| .next x _| .extract x _| .panic x| .typeAssert x _ _ _=>X x
 | .pick c a b=>X c&&X a&&X b
 | .alloc _=>true
 | .build _ ps| .buildSlice _ _ ps=>ps.all fun p=>X p.2
 | .store _ a v| .makeSlice _ a v| .indexAddr _ a v| .index _ a v=>X a&&X v
 | .binOp op t x y _=>X x&&X y&&(match op with
  | .eql| .neq=>Ja P BL t||((match P.underlying t with|some (.interface _)=>true|_=>false)&&(J8 x||J8 y))
  |_=>true)
 | .convert s d x=>X x&&bQ P s d
 | .makeFunc f a c=>(match f with| .func f=>ok f|_=>false)&&a.all X&&c.all X
 | .makeMap _ r=>r.all X
 | .slice _ x l h m=>X x&&l.all X&&h.all X&&m.all X
 | .lookup t x i _=>X x&&X i&&WG P t
 | .mapUpdate t m k v| .insert t m k v=>X m&&X k&&X v&&WG P t
 | .mapEntry t m k=>X m&&X k&&WG P t
 | .entryStore _ m s v=>X m&&X s&&X v
 | .call c=>okC G ok dead c
 |_=>false
section
variable {P' P:Zp}{fz:Prop}{ρ:Ren}
structure OY (dead:Nat→Bool)(ρ:Ren)(a b:Array Zc):Prop where
 size:a.size=b.size
 at_:∀(i:Nat) x y,dead i=false→a[i]?=some x→b[i]?=some y→VR ρ x y
theorem OY.getD {dead:Nat→Bool}{a b:Array Zc}(h:OY dead ρ a b)(i:Nat)(hd:dead i=false):VR ρ (a.getD i Ze) (b.getD i Ze):=by
 rw[YO,YO];cases hx:a[i]? with
 |none=>
  have:b[i]?=none:=by rw[Array.getElem?_eq_none_iff]at*;rw[←h.size];exact hx
  rw[this];exact VR.undef ρ
 |some x=>
  obtain⟨hi,_⟩:=Za.1 hx;have Df:i<b.size:=h.size▸hi;rw[ZB Df];exact h.at_ i _ _ hd hx (ZB Df)
theorem OY.mono {dead:Nat→Bool}{σ:Ren}(hle:ρ.le σ){a b:Array Zc}(h:OY dead ρ a b):OY dead σ a b:=⟨h.size,fun i x y hd hx hy=>(h.at_ i x y hd hx hy).mono hle⟩
theorem OY.of {dead:Nat→Bool}{a b:Array Zc}(h:BN ρ a b):OY dead ρ a b:=⟨h.1,fun i x y _ hx hy=>h.2 i x y hx hy⟩
theorem OY.all {a b:Array Zc}(h:OY (fun _=>false) ρ a b):BN ρ a b:=⟨h.size,fun i x y hx hy=>h.at_ i x y rfl hx hy⟩
theorem OY.set {dead:Nat→Bool}{a b:Array Zc}(h:OY dead ρ a b){x y:Zc}(hr:VR ρ x y)(j:Nat):OY dead ρ (a.setIfInBounds j x) (b.setIfInBounds j y):=by
 refine⟨by simp[h.size],fun i u v hd hu hv=>?_⟩;rw[Z3]at hu hv;rw[h.size]at hu;split at hu
 ·rw[if_pos ‹_›]at hv
  split at hu
  ·rw[if_pos ‹_›]at hv;cases hu;cases hv;exact hr
  ·rw[if_neg ‹_›]at hv;cases hu
 ·rw[if_neg ‹_›]at hv;exact h.at_ i u v hd hu hv
theorem LI (_hB:Base P ρ){dead:Nat→Bool}{fr Bd:ZA}(ht:OY dead ρ fr.tmps Bd.tmps){x:Operand}(h:g9 P.globals.size ρ.ok dead x=true):VR ρ (fr.eval x) (Bd.eval x):=by
 unfold Frame.eval;cases x with
 |tmp t=>exact ht.getD t (by simpa[g9]using h)
 |const v=>exact KP 8 h
 |global g=>cases h
 |func f=>exact .Wm (.func h) Bt.nil Bt.nil
theorem Ql (hB:Base P ρ){dead:Nat→Bool}{fr Bd:ZA}(ht:OY dead ρ fr.tmps Bd.tmps){xs:Array Operand}(h:xs.all (g9 P.globals.size ρ.ok dead)=true):BN ρ (xs.map fr.eval) (xs.map Bd.eval):=by
 rw[Yc]at h;refine⟨by simp,fun i u v hu hv=>?_⟩;rw[Yi,zd]at hu hv;obtain⟨x,hx,rfl⟩:=hu;obtain⟨y,hy,rfl⟩:=hv;rw[hx]at hy;cases hy;exact LI hB ht (h x (zM hx))
theorem Qm (hB:Base P ρ){dead:Nat→Bool}{fr Bd:ZA}(ht:OY dead ρ fr.tmps Bd.tmps){x:Option Operand}(h:x.all (g9 P.globals.size ρ.ok dead)=true):ed ρ (x.map fr.eval) (x.map Bd.eval):=by
 cases x with
 |none=>trivial
 |some x=>exact LI hB ht h
theorem ew (hB:Base P ρ){dead:Nat→Bool}{fr Bd:ZA}(ht:OY dead ρ fr.tmps Bd.tmps){ps:Array (Nat×Operand)}(h:ps.all (fun p=>g9 P.globals.size ρ.ok dead p.2)=true):
  Eg (tP ρ) (ps.map fun(i,x)=>(i,fr.eval x)).toList (ps.map fun(i,x)=>(i,Bd.eval x)).toList:=by
 rw[Yc]at h;refine Bt.list ⟨by simp,fun i u v hu hv=>?_⟩;rw[Yi,zd]at hu hv;obtain⟨x,hx,rfl⟩:=hu;obtain⟨y,hy,rfl⟩:=hv;rw[hx]at hy;cases hy;exact⟨rfl,LI hB ht (h x (zM hx))⟩
theorem Lm (Q:Zp)(t:Zs)(w:Zb)(es:Array ZU):(∃i,Q.info? t=some i∧(typeInfo t).runT Q w es=(.ok i w,es))∨∃z,(typeInfo t).runT Q w es=(.halt z w,es)∧GG z:=by
 cases hq:Q.info? t with
 |none=>exact .inr ⟨.stuck "no such type",by unfold typeInfo;simp[-Z5,bind,Sem.bind,program,ZF,hq,stuck],trivial⟩
 |some i=>exact .inl ⟨i,rfl,by unfold typeInfo;simp[-Z5,bind,Sem.bind,program,ZF,hq,pure]⟩
theorem QZ (Q:Zp)(hl:∀i,Q.info? 0=some i→i.methods.find? (fun m=>m.name== "")=none)(a:Array Zc):∀(w:Zb) (es:Array ZU),∃z u g,((zS tJ a).bind fun d=>invoke d.target d.args).runT Q w es=(.halt z u,g)∧GG z:=by
 intro w es;have key:∀fuel,∃z u g,(method fuel 0 (.tuple #[]) "").runT Q w es=(.halt z u,g)∧GG z:=by
  intro fuel;cases fuel with
  |zero=>exact⟨_,_,_,rfl,trivial⟩
  |succ n=>
   unfold method;show∃z u g,((typeInfo 0).bind _).runT Q w es=(.halt z u,g)∧GG z;rw[Z8];rcases Lm Q 0 w es with⟨i,hi,h⟩|⟨z,h,hd⟩
   ·rw[h]
    dsimp only;rw[hl i hi];exact⟨_,_,_,rfl,trivial⟩
   ·rw[h]
    exact⟨_,_,_,rfl,hd⟩
 have e:((zS tJ a).bind fun d=>invoke d.target d.args)=invoke (.fn (.method "") #[]) (#[.iface 0 (.tuple #[])]++a):=rfl;rw[e];have h0:(#[Value.iface 0 (.tuple #[])]++a)[0]?=some (.iface 0 (.tuple #[])):=by rw[zg (by simp)];rfl
 unfold invoke;dsimp only;rw[h0];unfold callMethod;dsimp only;show∃z u g,((program).bind fun p=>(method (p.types.size+Made.depth) 0 (.tuple #[]) "").bind _).runT Q w es=_∧_;rw[Z8];have hp:(program).runT Q w es=(.ok Q w,es):=rfl;rw[hp];dsimp only;rw[Z8];obtain⟨z,u,g,h,hd⟩:=key (Q.types.size+Made.depth);rw[h];exact⟨_,_,_,rfl,hd⟩
theorem TD {f f':Zc}(hf:VR ρ f f')(BI:f≠tJ){a a':Array Zc}(h:BN ρ a a'):Al P' P fz DfR ρ (zS f a) (zS f' a'):=by
 unfold zS;cases hf with
 |func hf ha wA hc JN=>exact Ad ⟨.fn hf ⟨hc,JN⟩,Bt.append ⟨ha,wA⟩ h⟩
 |nilFunc=>exact Ad ⟨.nil,h⟩
 |meth n f c=>exact absurd rfl BI
 |_=>exact Ae
theorem g_ (hB:Base P ρ){dead:Nat→Bool}{fr Bd:ZA}(ht:OY dead ρ fr.tmps Bd.tmps){c:Call}(h:okC P.globals.size ρ.ok dead c=true)(hnf:∀f,c.callee≠ .value (.func f))(wR:∀f,c.callee=.value f→fr.eval f≠tJ)(t:Zs):Al P' P fz DfR ρ (resolve fr.eval c t) (resolve Bd.eval c t):=by
 unfold okC at h;rw[ZD]at h;obtain⟨h1,h2⟩:=h;have ha:=Ql hB ht h2;unfold resolve;cases hc:c.callee with
 |value f=>
  rw[hc]at h1;refine TD (LI (x:=f) hB ht ?_) (wR f hc) ha;cases f with
  |func f=>exact absurd hc (hnf f)
  |_=>exact h1
 |builtin b=>
  rw[hc]at h1;exact Ad ⟨.builtin h1 _ _ _,ha⟩
 |invoke _ _=>rw[hc]at h1;cases h1
theorem MK {t:Zs}(h:WG P t=true):∀k e,P.underlying t=some (.map k e)→Ws P BL k=true:=by
 intro k e hu;unfold WG at h;rw[hu]at h;exact h
theorem lh (T:Twins P' P)(hB:Base P ρ)(S:CC P' P ρ.ok)(hd:BL≤P.depth){dead:Nat→Bool}{fr Bd:ZA}(ht:OY dead ρ fr.tmps Bd.tmps){o:Oper}(h:qB P ρ.ok dead o.op=true):Dm P' P fz bn ρ (execOp fr.eval o) (execOp Bd.eval o):=by
 have v:∀ {s s':Sem Zc},Al P' P fz VR ρ s s'→Al P' P fz bn ρ (s>>=fun x=>pure (.value x)) (s'>>=fun x=>pure (.value x)):=fun h=>Ac _ h fun _ _ _ _ hv=>Ad (.value hv);have u:∀ {s s':Sem Unit},Al P' P fz F4 ρ s s'→Al P' P fz bn ρ (s>>=fun _=>pure .skip) (s'>>=fun _=>pure .skip):=fun h=>Ac _ h fun _ _ _ _ _=>Ad .skip;have E:∀ {x:Operand},g9 P.globals.size ρ.ok dead x=true→VR ρ (fr.eval x) (Bd.eval x):=fun h=>LI hB ht h;have ok:∀ {s s':Sem Next},Al P' P fz bn ρ s s'→Dm P' P fz bn ρ s s':=fun h=>h.ok;unfold execOp;cases ho:o.op<;>rw[ho]at h<;>first|cases h|(simp only[qB,ZD]at h;dsimp only)
 case move x=>exact ok (Ad (.value (E h)))
 case assign x=>exact ok (Ad (.value (E h)))
 case pick c a b=>
  refine ok ?_;refine Ac _ (QK (E h.1.1)) fun σ b b' hle hb=>?_;cases hb;refine Ad (.value ?_);split
  ·exact(E h.1.2).mono hle
  ·exact(E h.2).mono hle
 case alloc e=>exact ok (v (qg T e))
 case box e x=>exact ok (v (acb e (E h)))
 case build t ps=>exact ok (v (ql T t (ew hB ht h)))
 case buildSlice t n ps=>exact ok (v (UK T t n (ew hB ht h)))
 case load t a=>exact ok (v (kT T t (E h)))
 case store t a x=>exact ok (u (gO T t (E h.1) (E h.2)))
 case nilCheck x=>
  refine ok ?_;have hx:=E h;generalize fr.eval x=y at hx;generalize Bd.eval x=y' at hx;cases hx with
  | @pointer a a' ha=>
   cases a<;>cases a'<;>first|exact ha.elim|skip
   ·exact AH T hB _
   ·exact Ad (.value (.pointer ha))
  |nilIface=>exact AH T hB _
  |nilFunc=>exact AH T hB _
  |func hf ha wA hc JN=>
   cases hf with
   |func hf=>exact Ad (.value (.func (.func hf) ha wA hc JN))
   |yield hl=>exact Ad (.value (.func (.yield hl) ha wA hc JN))
  |bool b=>exact Ad (.value (.bool b))
  |int k n=>exact Ad (.value (.int k n))
  |string s=>exact Ad (.value (.string s))
  |slice n c x=>exact Ad (.value (.slice n c x))
  |map x=>exact Ad (.value (.map x))
  |chan x=>exact Ad (.value (.chan x))
  |iface t x=>exact Ad (.value (.iface t x))
  |agg hc hv=>exact Ad (.value (.agg hc hv))
  |tuple hc hv=>exact Ad (.value (.tuple hc hv))
  |Eo h=>
   cases y' with
   |pointer a=>cases a with
    |none=>cases h
    |some a=>exact Ad (.value (.Eo h))
   |func f a c=>cases f with
    |method n=>cases h
    |_=>exact Ad (.value (.Eo h))
   |nilIface=>cases h
   |nilFunc=>cases h
   |_=>first|(cases h;done)|exact Ad (.value (.Eo h))
  |meth n f c=>
   refine .G0 fun w es=>?_;dsimp only;have h0:(#[Value.iface 0 (.tuple #[])]:Array Zc)[0]?=some (.iface 0 (.tuple #[])):=rfl;rw[h0];dsimp only;show∃z u g,((program).bind fun p=>(nilAhead (p.types.size+Made.depth) 0 (.tuple #[]) "").bind _).runT P' w es=_∧_;rw[Z8];have hp:(program).runT P' w es=(.ok P' w,es):=rfl;rw[hp];dsimp only;rw[Z8];have key:∀fuel,(∃z u g,(nilAhead fuel 0 (.tuple #[]) "").runT P' w es=(.halt z u,g)∧GG z)∨(nilAhead fuel 0 (.tuple #[]) "").runT P' w es=(.ok none w,es):=by
    intro fuel;cases fuel with
    |zero=>exact .inr rfl
    |succ n=>
     left;unfold nilAhead;show∃z u g,((typeInfo 0).bind _).runT P' w es=(.halt z u,g)∧GG z;rw[Z8];rcases Lm P' 0 w es with⟨i,hi,h⟩|⟨z,h,hd⟩
     ·rw[h]
      dsimp only;rw[T.kP i hi];exact⟨_,_,_,rfl,trivial⟩
     ·rw[h]
      exact⟨_,_,_,rfl,hd⟩
   rcases key (P'.types.size+Made.depth) with⟨z,u,g,h,hd⟩|h
   ·rw[h]
    exact⟨_,_,_,rfl,hd⟩
   ·rw[h]
    exact⟨_,_,_,rfl,trivial⟩
 case binOp op t x y yt=>
  obtain⟨⟨hx,hy⟩,hop⟩:=h;refine ok (v ?_);have qC:∀(f:ZA) {z:Operand},J8 z=true→∃c,z=.const c∧c=.nilIface∧f.eval z=.nilIface:=by
   intro f z hz;unfold J8 at hz;split at hz
   ·exact⟨_,rfl,rfl,rfl⟩
   ·cases hz
  refine Ac _ (gX T BL hd op t x y ?_ (E hx) (E hy)) fun σ _ _ hle _=>?_
  ·intro he
   have h_:(Ja P BL t||((match P.underlying t with|some (.interface _)=>true|_=>false)&&(J8 x||J8 y)))=true:=by rcases he with rfl|rfl<;>exact hop
   rw[ZaA,ZD,ZaA]at h_;rcases h_ with h|⟨_,h|h⟩
   ·exact .inl h
   ·obtain⟨c,e1,e2,e3⟩:=qC fr h
    exact .inr ⟨c,.inl ⟨e1,e2.trans e3.symm,e3⟩⟩
   ·obtain⟨c,e1,e2,e3⟩:=qC fr h
    exact .inr ⟨c,.inr ⟨e1,e2.trans e3.symm,e3⟩⟩
  ·by_cases he:op=.eql∨op=.neq
   ·refine qy T (hB.mono hle) BL op t he ?_ ((E hx).mono hle) ((E hy).mono hle)
    have h_:(Ja P BL t||((match P.underlying t with|some (.interface _)=>true|_=>false)&&(J8 x||J8 y)))=true:=by rcases he with rfl|rfl<;>exact hop
    rw[ZaA,ZD,ZaA]at h_;rcases h_ with h|⟨hi,h⟩
    ·exact .inl h
    ·refine .inr ⟨?_,?_⟩
     ·split at hi
      ·exact⟨_,‹_›⟩
      ·cases hi
     ·rcases h with h|h
      ·obtain⟨c,e1,e2,e3⟩:=qC fr h;exact .inl e3
      ·obtain⟨c,e1,e2,e3⟩:=qC fr h;exact .inr e3
   ·exact bP T (hB.mono hle) op t ⟨fun e=>he (.inl e),fun e=>he (.inr e)⟩ ((E hx).mono hle) ((E hy).mono hle)
 case unOp op t x=>exact ok (v (qw op (E h)))
 case convert s d x=>exact ok (v (gY T s d h.2 (E h.1)))
 case makeInterface t x=>exact ok (v (PW T t (E h)))
 case makeFunc f a c=>
  obtain⟨⟨hf,ha⟩,hc⟩:=h;cases f with
  |func f=>exact ok (v (Ad (.Wm (.func hf) (Ql hB ht ha) (Ql hB ht hc))))
  |_=>cases hf
 case makeMap t r=>exact ok (v (gT T t (Qm hB ht h)))
 case makeSlice t l c=>exact ok (v (Wu T hB t (E h.1) (E h.2)))
 case slice t x l hi m=>exact ok (v (gR T hB t (E h.1.1.1) (Qm hB ht h.1.1.2) (Qm hB ht h.1.2) (Qm hB ht h.2)))
 case fieldAddr s x f=>exact ok (v (gP T s (E h) f))
 case field t x f=>exact ok (v (qi T t (E h) f))
 case indexAddr t x i=>exact ok (v (gQ T hB t (E h.1) (E h.2)))
 case index t x i=>exact ok (v (qj T hB t (E h.1) (E h.2)))
 case lookup t x i k=>exact ok (v (kY T BL t (MK h.2) hB (E h.1.1) (E h.1.2) k))
 case mapUpdate t m k x=>exact Dm.map (OU T BL t (MK h.2) hB (E h.1.1.1) (E h.1.1.2) (E h.1.2)) fun _ _ _ _ _=>.skip
 case insert t m k x=>exact Dm.map (OU T BL t (MK h.2) hB (E h.1.1.1) (E h.1.1.2) (E h.1.2)) fun _ _ _ _ _=>.skip
 case mapEntry t m k=>exact Dm.map (bH T BL t (MK h.2) hB (E h.1.1) (E h.1.2)) fun _ _ _ _ hv=>.value hv
 case entryStore t m s x=>exact ok (u (UL t (E h.1.1) (E h.1.2) (E h.2)))
 case range t x=>exact ok (v (k9 T t (E h)))
 case next it s=>exact ok (v (wM (E h) s _))
 case typeAssert x xt at_ k=>exact ok (v (UM T hB (E h) xt at_ k))
 case extract t i=>exact ok (v (gS (E h) i))
 case call c=>
  refine ok ?_;by_cases hnf:∃f,c.callee=.value (.func f)
  ·obtain⟨f,hc⟩:=hnf
   unfold okC at h;rw[hc,ZD]at h;have ha:=Ql hB ht h.2;have e:∀fr:ZA,(do let d ←resolve fr.eval c o.type;invoke d.target d.args)=Zz f (c.args.map fr.eval):=by
    intro fr;unfold resolve;rw[hc];simp[Frame.eval,zS,invoke,bind,pure,Sem.bind]
   rw[e,e];exact QX S (.inr (by simpa using h.1)) ha
  by_cases wR:∃f,c.callee=.value f∧fr.eval f=tJ
  ·obtain⟨f,hc,hv⟩:=wR
   have e:(do let d ←resolve fr.eval c o.type;invoke d.target d.args)=((zS tJ (c.args.map fr.eval)).bind fun d=>invoke d.target d.args):=by
    unfold resolve;rw[hc];dsimp only;rw[hv]
    rfl
   rw[e];exact .G0 (QZ P' T.kP _)
  exact Ac _ (g_ hB ht h (fun f hf=>hnf ⟨f,hf⟩) (fun f hf hv=>wR ⟨f,hf,hv⟩) o.type) fun σ d d' hle hd=>WE T (hB.mono hle) (by rw[hle.2.1];exact S) hd.target hd.args
 case panic x=>exact ok (v (qz T hB (E h)))
end
def TE (P:Zp)(ok:OL)(dead:Nat→Bool)(ops:Array Oper):Bool:=ops.all fun o=>qB P ok dead o.op&&o.dst.all (fun d=> !dead d)
def A_ (P:Zp)(ok:OL)(dead:Nat→Bool)(seg:Bool):Code→Bool
 | .skip| .exit _| .label _=>true
 | .region _ ops _=>TE P ok dead ops
 | .seq a b=>A_ P ok dead seg a&&A_ P ok dead seg b
 | .cond c a b=>g9 P.globals.size ok dead c&&A_ P ok dead seg a&&A_ P ok dead seg b
 | .block _ b| .loop b| .scope b=>A_ P ok dead seg b
 | .ret=> !seg
 | .rangeFunc f _ a b=> !seg&&g9 P.globals.size ok dead f&&A_ P ok dead seg a&&A_ P ok dead seg b
 |_=>false
abbrev BO:Nat→Bool:=fun _=>false
structure NK (P' P:Zp)(ok:OL)(sp:YT→Bool):Prop where
 val:∀f,ok f=true→ok.Mz f=true∧sp f=false
 dir:∀f n,ok.dir f n=true→(ok.Mz f=true∧sp f=false)∨sp f=true
 met:∀f n,ok.dir f n=true→sp f=true→∃fn Qj,P'.funcs[f]?=some fn∧P.funcs[f]?=some Qj∧fn.body.isSome=true∧Qj.body.isSome=true∧(fn.name== "runtime.NumGoroutine")=false∧(Qj.name== "runtime.NumGoroutine")=false
 has:∀f,ok.Mz f=true→sp f=false→∃fn code,P'.funcs[f]?=some fn∧P.funcs[f]?=some fn∧fn.body=some code∧A_ P ok BO false code=true∧(fn.name== "runtime.NumGoroutine")=false∧fn.norace=false
theorem NK.same {P' P:Zp}{ok:OL}{sp:YT→Bool}(F:NK P' P ok sp):CC P' P ok:=
 ⟨fun f hf=>by
  rcases hf with hf|⟨n,hf⟩
  case inr=>
   rcases F.dir f n hf with hs|hs
   ·obtain⟨fn,code,h1,h2,h3,_,h5,_⟩:=F.has f hs.1 hs.2;exact⟨fn,fn,h1,h2,by rw[h3];rfl,by rw[h3];rfl,h5,h5⟩
   ·exact F.met f n hf hs
  case inl=>obtain⟨fn,code,h1,h2,h3,_,h5,_⟩:=F.has f (F.val f hf).1 (F.val f hf).2;exact⟨fn,fn,h1,h2,by rw[h3];rfl,by rw[h3];rfl,h5,h5⟩⟩
structure Env (P' P:Zp)(ρ:Ren):Prop where
 base:Base P ρ
 good:ρ.good=A_ P ρ.ok BO false
 Mz:NK P' P ρ.ok ρ.sp
theorem Env.mono {P' P:Zp}{ρ σ:Ren}(h:Env P' P ρ)(hle:ρ.le σ):Env P' P σ:=
 ⟨h.base.mono hle,by rw[hle.2.2.1,hle.2.1];exact h.good,by rw[hle.2.1,hle.2.2.2];exact h.Mz⟩
structure Cut where
 seg:Bool
 dead:Nat→Bool
 tail:List Item
 ey:List Deferred
 fn:YT
 flat:Bool
 rv:Nat→Zc
 rn:Nat
 rk:CallKind
def Cut.whole:Cut:=⟨false,BO,[],[],0,false,fun _=>Ze,0,.normal⟩
def Cut.Full (K:Cut):Prop:=K.tail=[]∧K.ey=[]∧K.dead=BO
theorem Cut.Q0:Cut.whole.Full:=⟨rfl,rfl,rfl⟩
inductive SY (P:Zp)(K:Cut)(ρ:Ren):Item→Item→Prop
 |code {c:Code} (h:A_ P ρ.ok K.dead K.seg c=true):SY P K ρ (.code c) (.code c)
 |inBlock (id:Nat):SY P K ρ (.inBlock id) (.inBlock id)
 |inLoop {b:Code} (h:A_ P ρ.ok K.dead K.seg b=true):SY P K ρ (.inLoop b) (.inLoop b)
 |inScope {b:Code} (h:A_ P ρ.ok K.dead K.seg b=true):SY P K ρ (.inScope b) (.inScope b)
 |inRegion {ops:Array Oper} (is:List Nat) (h:TE P ρ.ok K.dead ops=true):SY P K ρ (.inRegion ops is) (.inRegion ops is)
 |ML {l l':Nat} (h:ρ l=some l') (hs:K.seg=false):SY P K ρ (.inRangeFunc l) (.inRangeFunc l')
 |Iv {l l':Nat} (h:ρ l=some l') (hs:K.seg=false):SY P K ρ (.endRangeFunc l) (.endRangeFunc l')
 |beginRound (hs:K.seg=false):SY P K ρ .beginRound .beginRound
structure j9 (ρ:Ren)(p p':zc):Prop where
 v:VR ρ p.v p'.v
 fresh:p.recovered=false∧p'.recovered=false∧p.goexit=false∧p'.goexit=false
inductive wS (ρ:Ren):FrameMode→FrameMode→Prop
 |run:wS ρ .run .run
 |returning:wS ρ .returning .returning
 |panicking {c c':List zc} (h:Eg (j9 ρ) c c'):wS ρ (.panicking c) (.panicking c')
theorem SY.mono {P:Zp}{K:Cut}{ρ σ:Ren}(hle:ρ.le σ){i i':Item}(h:SY P K ρ i i'):SY P K σ i i':=by
 cases h with
 |code h=>exact .code (by rw[hle.2.1];exact h)
 |inBlock id=>exact .inBlock id
 |inLoop h=>exact .inLoop (by rw[hle.2.1];exact h)
 |inScope h=>exact .inScope (by rw[hle.2.1];exact h)
 |inRegion is h=>exact .inRegion is (by rw[hle.2.1];exact h)
 |ML h hs=>exact .ML (hle.1 _ _ h) hs
 |Iv h hs=>exact .Iv (hle.1 _ _ h) hs
 |beginRound hs=>exact .beginRound hs
theorem j9.mono {ρ σ:Ren}(hle:ρ.le σ){p p':zc}(h:j9 ρ p p'):j9 σ p p':=⟨h.v.mono hle,h.fresh⟩
theorem wS.mono {ρ σ:Ren}(hle:ρ.le σ){m m':FrameMode}(h:wS ρ m m'):wS σ m m':=by
 cases h with
 |run=>exact .run
 |returning=>exact .returning
 |panicking h=>exact .panicking (h.mono fun _ _=>j9.mono hle)
structure G9 (P' P:Zp)(K:Cut)(ρ:Ren)(fr Bd:ZA):Prop where
 fn:Bd.fn=fr.fn
 src:K.seg=false→ρ.ok.Mz fr.fn=true∧ρ.sp fr.fn=false
 loud:(P'.funcs[fr.fn]?).any (·.norace)=false∧(P.funcs[fr.fn]?).any (·.norace)=false
 tmps:OY K.dead ρ fr.tmps Bd.tmps
 todo:∃k,Bd.todo=k++K.tail∧Eg (SY P K ρ) fr.todo k
 defers:∃d,Bd.defers=d++K.ey∧Eg (d_ ρ) fr.defers d
 mode:wS ρ fr.mode Bd.mode
 kind:fr.kind=.normal∧(Bd.kind=.normal∨(K.seg=true∧Bd.kind=.deferred))
 round:QG ρ fr.roundOf Bd.roundOf
 part:K.seg=true→fr.roundOf=none∧fr.mode≠ .returning∧fr.defers=[]∧fr.fn=K.fn
 flat:K.flat=true→fr.roundOf=none∧fr.fn=K.fn
 Au:K.seg=true→Bd.tmps.size=K.rn∧(∀i,K.dead i=true→Bd.tmps.getD i Ze=K.rv i)∧Bd.kind=K.rk
theorem G9.mono {P' P:Zp}{K:Cut}{ρ σ:Ren}(hle:ρ.le σ){fr Bd:ZA}(h:G9 P' P K ρ fr Bd):G9 P' P K σ fr Bd:=
 ⟨h.fn,by rw[hle.2.1,hle.2.2.2];exact h.src,h.loud,h.tmps.mono hle,by obtain⟨k,h1,h2⟩:=h.todo;exact⟨k,h1,h2.mono fun _ _=>SY.mono hle⟩,
  by obtain⟨k,h1,h2⟩:=h.defers;exact⟨k,h1,h2.mono fun _ _=>d_.mono hle⟩,h.mode.mono hle,h.kind,h.round.mono hle,h.part,h.flat,h.Au⟩
section
variable {P' P:Zp}{ρ:Ren}{K:Cut}
theorem G9.lj {fr Bd:ZA}(h:G9 P' P K ρ fr Bd)(hs:K.seg=false):Bd.kind=.normal:=h.kind.2.resolve_right fun x=>by rw[hs]at x;cases x.1
theorem G9.pA {fr Bd:ZA}(h:G9 P' P K ρ fr Bd):fr.kind≠ .early:=by rw[h.kind.1];intro x;cases x
theorem G9.ne2 {fr Bd:ZA}(h:G9 P' P K ρ fr Bd):Bd.kind≠ .early:=by
 rcases h.kind.2 with x|⟨_,x⟩<;>(rw[x];intro y;cases y)
theorem Eg.Q7 {α β:Type}{R:α→β→Prop}{m:List β}(h:Eg R [] m):m=[]:=by cases h;rfl
theorem NL {ok:OL}{dead:Nat→Bool}{ops:Array Oper}(h:TE P ok dead ops=true){i:Nat}{o:Oper}(ho:ops[i]?=some o):qB P ok dead o.op=true∧∀d,o.dst=some d→dead d=false:=by
 unfold TE at h;rw[Yc]at h;have:=h o (zM ho);rw[ZD]at this;refine⟨this.1,fun d hd=>?_⟩;have h2:=this.2;rw[hd]at h2;simpa using h2
theorem G9.finish {fr Bd:ZA}(h:G9 P' P K ρ fr Bd){v v':Zc}(hv:VR ρ v v')(BI:fr.todo≠ []):G9 P' P K ρ (fr.finish v) (Bd.finish v'):=by
 obtain⟨Hp,LJ,G_,TF,⟨k,hk,hl⟩,JP,Q8,VY,J9,VZ,US,SK⟩:=h;obtain⟨fn,tmps,todo,defers,mode,kind,roundOf⟩:=fr;obtain⟨Qj,Q9,TG,qD,acv,tU,ll⟩:=Bd;dsimp only at Hp LJ G_ TF hk hl JP Q8 VY J9 VZ US SK BI;subst hk;cases hl with
 |nil=>exact absurd rfl BI
 |cons hx ht=>
  unfold Frame.finish;cases hx with
  |code hc=>exact⟨Hp,LJ,G_,TF,⟨_,rfl,.cons (.code hc) ht⟩,JP,Q8,VY,J9,VZ,US,SK⟩
  |inBlock id=>exact⟨Hp,LJ,G_,TF,⟨_,rfl,.cons (.inBlock id) ht⟩,JP,Q8,VY,J9,VZ,US,SK⟩
  |inLoop hc=>exact⟨Hp,LJ,G_,TF,⟨_,rfl,.cons (.inLoop hc) ht⟩,JP,Q8,VY,J9,VZ,US,SK⟩
  |inScope hc=>exact⟨Hp,LJ,G_,TF,⟨_,rfl,.cons (.inScope hc) ht⟩,JP,Q8,VY,J9,VZ,US,SK⟩
  |inRegion is hc=>
   cases is with
   |nil=>exact⟨Hp,LJ,G_,TF,⟨_,rfl,.cons (.inRegion [] hc) ht⟩,JP,Q8,VY,J9,VZ,US,SK⟩
   |cons i rest=>
    rename_i ops;refine⟨Hp,LJ,G_,?_,⟨_,rfl,.cons (.inRegion rest hc) ht⟩,JP,Q8,VY,J9,VZ,US,fun hs=>?_⟩
    ·show OY K.dead ρ (match(ops[i]?).bind (·.dst) with|some d=>tmps.setIfInBounds d v|none=>tmps) (match(ops[i]?).bind (·.dst) with|some d=>Q9.setIfInBounds d v'|none=>Q9)
     generalize (ops[i]?).bind (·.dst)=od;cases od with
     |none=>exact TF
     |some d=>exact TF.set hv d
    ·show(match(ops[i]?).bind (·.dst) with|some d=>Q9.setIfInBounds d v'|none=>Q9).size=_∧(∀j,_→(match(ops[i]?).bind (·.dst) with|some d=>Q9.setIfInBounds d v'|none=>Q9).getD j Ze=_)∧tU=_
     have OZ:∀d,(ops[i]?).bind (·.dst)=some d→K.dead d=false:=by
      intro d hd;cases ho:ops[i]? with
      |none=>rw[ho]at hd;cases hd
      |some o=>rw[ho]at hd;exact(NL hc ho).2 d hd
     generalize (ops[i]?).bind (·.dst)=od at OZ;cases od with
     |none=>exact SK hs
     |some d=>
      refine⟨by simpa using(SK hs).1,fun j hj=>?_,(SK hs).2.2⟩;have BI:d≠j:=by
       rintro rfl;rw[OZ d rfl]at hj;cases hj
      have:=(SK hs).2.1 j hj;simp only[YO,Zk BI]at this⊢;exact this
  |ML hc hs=>exact⟨Hp,LJ,G_,TF,⟨_,rfl,.cons (.Iv hc hs) ht⟩,JP,Q8,VY,J9,VZ,US,SK⟩
  |Iv hc hs=>exact⟨Hp,LJ,G_,TF,⟨_,rfl,.cons (.Iv hc hs) ht⟩,JP,Q8,VY,J9,VZ,US,SK⟩
  |beginRound hs=>exact⟨Hp,LJ,G_,TF,⟨_,rfl,ht⟩,JP,Q8,VY,J9,VZ,US,SK⟩
theorem G9.raise {fr Bd:ZA}(h:G9 P' P K ρ fr Bd){c c':List zc}(hc:Eg (j9 ρ) c c'):G9 P' P K ρ (fr.raise c) (Bd.raise c'):=by
 obtain⟨Hp,LJ,G_,TF,htd,JP,Q8,VY,J9,VZ,US,SK⟩:=h;obtain⟨fn,tmps,todo,defers,mode,kind,roundOf⟩:=fr;obtain⟨Qj,Q9,TG,qD,acv,tU,ll⟩:=Bd;dsimp only at Hp LJ G_ TF htd JP Q8 VY J9 VZ US SK;unfold ZaN;cases Q8 with
 |run=>exact⟨Hp,LJ,G_,TF,htd,JP,.panicking hc,VY,J9,fun h=>⟨(VZ h).1,fun x=>(by cases x),(VZ h).2.2⟩,US,SK⟩
 |returning=>exact⟨Hp,LJ,G_,TF,htd,JP,.panicking hc,VY,J9,fun h=>⟨(VZ h).1,fun x=>(by cases x),(VZ h).2.2⟩,US,SK⟩
 |panicking h=>exact⟨Hp,LJ,G_,TF,htd,JP,.panicking (hc.append h),VY,J9,fun h=>⟨(VZ h).1,fun x=>(by cases x),(VZ h).2.2⟩,US,SK⟩
theorem DY {Q:Zp}{f:YT}{fn:Func}(h:Q.funcs[f]?=some fn)(hn:fn.norace=false):(Q.funcs[f]?).any (·.norace)=false:=by rw[h];exact hn
theorem G9.enter (E:Env P' P ρ){f:YT}(hf:ρ.ok.Mz f=true)(JQ:ρ.sp f=false){a a':Array Zc}(ha:BN ρ a a'):G9 P' P .whole ρ (Zq P' f a .normal) (Zq P f a' .normal):=by
 obtain⟨fn,code,h1,h2,h3,h4,h5,h6⟩:=E.Mz.has f hf JQ;unfold Zq;rw[h1,h2];refine⟨rfl,fun _=>⟨hf,JQ⟩,⟨DY h1 h6,DY h2 h6⟩,?_,⟨[.code code],?_,?_⟩,⟨[],rfl,.nil⟩,.run,⟨rfl,.inl rfl⟩,trivial,fun h=>(by cases h),fun h=>(by cases h),fun h=>(by cases h)⟩
 ·rw[ha.1];exact OY.of (ha.append (Bt.replicate _ (VR.undef ρ)))
 ·simp[h3,Cut.whole]
 ·simp only[Option.bind_some,h3,Zw]
  exact .cons (.code h4) .nil
theorem G9.qE (E:Env P' P ρ){l l':Nat}(hl:ρ l=some l'){f:YT}(hf:ρ.ok.Mz f=true∧ρ.sp f=false){t t':Array Zc}(ht:BN ρ t t'){as b:Code}(has:ρ.good as=true)(hb:ρ.good b=true):
  G9 P' P .whole ρ (Frame.round l f t as b .normal) (Frame.round l' f t' as b .normal):=by
 obtain⟨fn,code,h1,h2,h3,h4,h5,h6⟩:=E.Mz.has f hf.1 hf.2;rw[E.good]at has hb;exact⟨rfl,fun _=>hf,⟨DY h1 h6,DY h2 h6⟩,.of ht,⟨_,(List.append_nil _).symm,.cons (.code has) (.cons (.beginRound rfl) (.cons (.code hb) .nil))⟩,⟨[],rfl,.nil⟩,.run,⟨rfl,.inl rfl⟩,hl,fun h=>(by cases h),fun h=>(by cases h),fun h=>(by cases h)⟩
theorem ia (T:Twins P' P)(hB:Base P ρ)(fn:Func){t t':Array Zc}(ht:BN ρ t t'):Al P' P False VR ρ (results fn t) (results fn t'):=by
 unfold results;refine Ac (fun σ a b=>BN σ a b) ?_ fun σ a b _ Eh=>?_
 ·rw[Array.mapM_eq_mapM_toList,Array.mapM_eq_mapM_toList]
  refine Ac _ (Lj (ρ:=ρ) (R:=VR) (fun _ _ _ _ h=>VR.mono h) (fun τ x C6=>?_) _ ρ (Ren.le_refl _)) fun σ a b _ Eh=>?_
  ·cases x with
   |tmp i=>exact Ad (VR.getD (BN.mono C6 ht) (VR.undef _) i)
   |cell i ty=>
    exact Ac _ (Wp T (hB.mono C6) (VR.getD (BN.mono C6 ht) (VR.undef _) i)) fun σ a b hle Eh=>Tx T ty Eh
  ·exact Ad (Bt.dZ Eh)
 ·have:=Eh.1
  by_cases h1:a.size=1
  ·have h2:b.size=1:=by omega
   rw[dif_pos h1,dif_pos h2];exact Ad (Eh.2 0 _ _ (ZB (by omega)) (ZB (by omega)))
  ·have h2:¬b.size=1:=by omega
   rw[dif_neg h1,dif_neg h2];exact Ad (.tuple' Eh)
end
theorem WH {Q:Zp}{fn:YT}{es:Array ZU}(h:(Q.funcs[fn]?).any (·.norace)=false)(he:∀e∈es,∀f,e.loc≠ .mark (.extern f)):seen Q fn es=es:=by
 unfold seen;dsimp only;rw[h, ←Array.foldl_toList];have key:∀(l:List ZU) (acc:Array ZU),(∀e∈l,∀f,e.loc≠ .mark (.extern f))→
   (l.foldl (fun(x:Bool×Array ZU) e=>match e.loc with
    | .mark (.extern f)=>((Q.funcs[f]?).any (·.norace),x.2)
    |_=>(x.1,if(x.1&& !e.sync)=true then x.2 else x.2.push e)) (false,acc))=(false,acc++l.toArray):=by
  intro l
  induction l with
  |nil=>intro acc _;simp
  |cons e l ih=>
   intro acc hl;rw[List.foldl_cons];have he:=hl e (by simp);have:(match e.loc with
    | .mark (.extern f)=>((Q.funcs[f]?).any (·.norace),acc)
    |_=>(false,if(false&& !e.sync)=true then acc else acc.push e))=(false,acc.push e):=by
    split
    ·exact absurd ‹_› (he _)
    ·simp
   rw[this,ih _ fun x hx=>hl x (by simp[hx])];simp
 have:=key es.toList #[] (fun e h=>he e (by simpa using h));exact(congrArg Prod.snd this).trans (by simp)
theorem pv.plain {σ:Ren}{e e':ZU}(h:pv σ e e'):(∀f,e.loc≠ .mark (.extern f))∧∀f,e'.loc≠ .mark (.extern f):=by
 have hl:=h.loc;generalize e.loc=l at hl;generalize e'.loc=l' at hl;cases hl with
 |cell h=>exact⟨fun f x=>(by cases x),fun f x=>(by cases x)⟩
 |obj h=>exact⟨fun f x=>(by cases x),fun f x=>(by cases x)⟩
 |mark h=>cases h;exact⟨fun f x=>(by cases x),fun f x=>(by cases x)⟩
 |output=>exact⟨fun f x=>(by cases x),fun f x=>(by cases x)⟩
theorem Bt.left {α β:Type}{R:α→β→Prop}{a:Array α}{b:Array β}(h:Bt R a b){x:α}(hx:x∈a):∃y∈b,R x y:=by
 obtain⟨i,hi,rfl⟩:=Array.mem_iff_getElem.1 hx;obtain⟨y,hy,hr⟩:=h.get (ZB hi);exact⟨y,zM hy,hr⟩
theorem Bt.right {α β:Type}{R:α→β→Prop}{a:Array α}{b:Array β}(h:Bt R a b){y:β}(hy:y∈b):∃x∈a,R x y:=by
 obtain⟨i,hi,rfl⟩:=Array.mem_iff_getElem.1 hy;have Df:i<a.size:=by rw[h.1];exact hi
 exact⟨a[i],by simp,h.2 i _ _ (ZB Df) (ZB hi)⟩
structure Fx (ρ σ:Ren)(w w₁ w' w₁':Zb)(d d':Array ZU):Prop where
 le:ρ.le σ
 world:WR σ w₁ w₁'
 evs:Bt (pv σ) d d'
 Fc:I9 False ρ σ w w₁ w' w₁' d
theorem Fx.refl {ρ:Ren}{w w':Zb}(h:WR ρ w w'):Fx ρ ρ w w w' w' #[] #[]:=⟨Ren.le_refl _,h,Bt.nil,I9.refl _ _ _ _⟩
theorem Fx.trans {ρ τ σ:Ren}{w w₁ w₂ w' w₁' Cu:Zb}{d GH e acw:Array ZU}(h:Fx ρ τ w w₁ w' w₁' d e)(k:Fx τ σ w₁ w₂ w₁' Cu GH acw):Fx ρ σ w w₂ w' Cu (d++GH) (e++acw):=
 ⟨Ren.le_trans h.le k.le,k.world,(Bt.mono h.evs fun _ _=>pv.mono k.le).append k.evs,h.Fc.trans k.Fc k.le⟩
theorem Fx.BU {Q:Zp}{fn:YT}(h:(Q.funcs[fn]?).any (·.norace)=false){ρ σ:Ren}{w w₁ w' w₁':Zb}{d d':Array ZU}(k:Fx ρ σ w w₁ w' w₁' d d'):seen Q fn d=d:=
 WH h fun _ he=>by obtain⟨y,_,hr⟩:=k.evs.left he;exact hr.plain.1
theorem Fx.DZ {Q:Zp}{fn:YT}(h:(Q.funcs[fn]?).any (·.norace)=false){ρ σ:Ren}{w w₁ w' w₁':Zb}{d d':Array ZU}(k:Fx ρ σ w w₁ w' w₁' d d'):seen Q fn d'=d':=
 WH h fun _ he=>by obtain⟨y,_,hr⟩:=k.evs.right he;exact hr.plain.2
section
variable {P' P:Zp}{ρ:Ren}{K:Cut}{α β:Type}{Q:Ren→α→β→Prop}
theorem Dm.lock {s:Sem α}{s':Sem β}(h:Dm P' P False Q ρ s s'){w w':Zb}(hw:Hv ρ w w'):
  (∃x u f,s.runT P' w #[]=(.halt x u,f)∧GG x)∨
  (∃σ a b w₁ w₁' d d',s.runT P' w #[]=(.ok a w₁,d)∧s'.runT P w' #[]=(.ok b w₁',d')∧Q σ a b∧Fx ρ σ w w₁ w' w₁' d d'∧gL P' s w #[] (.ok a w₁) d)∨
  (∃σ v v' w₁ w₁' d d',s.runT P' w #[]=(.halt (.panic v) w₁,d)∧s'.runT P w' #[]=(.halt (.panic v') w₁',d')∧VR σ v v'∧Fx ρ σ w w₁ w' w₁' d d'∧gL P' s w #[] (.halt (.panic v) w₁) d):=by
 rcases hr:s.runT P' w #[]with⟨r,f⟩;by_cases hd:kN r
 ·obtain⟨x,u,rfl,hx⟩:=hd
  exact .inl ⟨x,u,f,rfl,hx⟩
 ·obtain⟨σ,r',d,d',h1,h2,h3,h4,h5,h6,h7,h8⟩:=h w w' hw #[] #[] r f hr hd
  have h2':f=d:=by simpa using h2
  have h3':s'.runT P w' #[]=(r',d'):=by simpa using h3
  subst h2';cases h4 with
  |ok hq=>exact .inr (.inl ⟨σ,_,_,_,_,f,d',rfl,h3',hq,⟨h1,h5,h6,h7⟩,h8⟩)
  |panic hv=>exact .inr (.inr ⟨σ,_,_,_,_,f,d',rfl,h3',hv,⟨h1,h5,h6,h7⟩,h8⟩)
theorem Al.lock {s:Sem α}{s':Sem β}(h:Al P' P False Q ρ s s'){w w':Zb}(hw:Hv ρ w w'):
  (∃x u f,s.runT P' w #[]=(.halt x u,f)∧GG x)∨
  (∃σ a b w₁ w₁' d d',s.runT P' w #[]=(.ok a w₁,d)∧s'.runT P w' #[]=(.ok b w₁',d')∧Q σ a b∧Fx ρ σ w w₁ w' w₁' d d'∧gL P' s w #[] (.ok a w₁) d)∨
  (∃σ v v' w₁ w₁' d d',s.runT P' w #[]=(.halt (.panic v) w₁,d)∧s'.runT P w' #[]=(.halt (.panic v') w₁',d')∧VR σ v v'∧Fx ρ σ w w₁ w' w₁' d d'∧gL P' s w #[] (.halt (.panic v) w₁) d):=h.ok.lock hw
def lp (F:Zb→GStep)(w:Zb)(AE:Zg)(w₁:Zb)(es:Array ZU):Prop:=
 ∀t:Tape,(∀i,w.drawn≤i→i<w₁.drawn→t i=w.tape i)→F {w with tape:=t}=.go AE {w₁ with tape:=t} es
def AO (fr:ZA)(cs:List ZA):Zg:= {frame:=fr,callers:=cs,status:=.running,dying:=none}
inductive Out (P' P:Zp)(K:Cut)(σ:Ren)(cs cs':List ZA):Zg→Zg→Prop
 |stay {f f':ZA} (h:G9 P' P K σ f f'):Out P' P K σ cs cs' (AO f cs) (AO f' cs')
 |push {b b' f f':ZA} (hb:G9 P' P .whole σ b b') (h:G9 P' P K σ f f') (BI:f.todo≠ []):Out P' P K σ cs cs' (AO b (f::cs)) (AO b' (f'::cs'))
 |pop {v v':Zc} {c c':ZA} {r r':List ZA} (hs:K.seg=false) (hv:VR σ v v') (h:cs=c::r) (h':cs'=c'::r'):Out P' P K σ cs cs' (AO (c.finish v) r) (AO (c'.finish v') r')
 |UT {f:YT} {a a':Array Zc} {b b':ZA} (hf:σ.ok.dir f a.size=true) (hs:σ.sp f=true) (ha:BN σ a a') (h:G9 P' P K σ b b') (BI:b.todo≠ []):
   Out P' P K σ cs cs' (AO (Zq P' f a .normal) (b::cs)) (AO (Zq P f a' .normal) (b'::cs'))
 |raise {x x':List zc} {c c':ZA} {r r':List ZA} (hs:K.seg=false) (hx:Eg (j9 σ) x x') (h:cs=c::r) (h':cs'=c'::r'):Out P' P K σ cs cs' (AO (c.raise x) r) (AO (c'.raise x') r')
section
variable {R:Zp}{fr:ZA}{cs:List ZA}{s:Sem Next}{w w₁:Zb}{d:Array ZU}
theorem J_ {v:Zc}(hk:fr.kind≠ .early)(h:s.runT R w #[]=(.ok (.value v) w₁,d)):stepG.apply R true fr cs none s w=.go (AO (fr.finish v) cs) w₁ (seen R fr.fn d):=by
 have k1:(fr.kind==ZaD)=false:=by simpa using hk
 unfold stepG.apply;simp only[h,k1,zv,AO,if_true];simp
theorem LK (hk:fr.kind≠ .early)(h:s.runT R w #[]=(.ok .skip w₁,d)):stepG.apply R true fr cs none s w=.go (AO (fr.finish Ze) cs) w₁ (seen R fr.fn d):=by
 have k1:(fr.kind==ZaD)=false:=by simpa using hk
 unfold stepG.apply;simp only[h,k1,zv,AO,if_true];simp
theorem J' {f:YT}{a:Array Zc}(hk:fr.kind≠ .early)(hc:∀d r s k,fr.todo≠ .call d true r s::k)(h:s.runT R w #[]=(.ok (.enter f a) w₁,d)):
  stepG.apply R true fr cs none s w=.go (AO (Zq R f a .normal) (fr::cs)) w₁ (seen R fr.fn d):=by
 have k1:(fr.kind==ZaD)=false:=by simpa using hk
 unfold stepG.apply;simp only[h,k1,zv,AO,if_true,Bool.false_eq_true,if_false];simp
theorem Ka {l:Nat}{f:YT}{t:Array Zc}{as b:Code}(hk:fr.kind≠ .early)(h:s.runT R w #[]=(.ok (.round l f t as b) w₁,d)):
  stepG.apply R true fr cs none s w=.go (AO (Frame.round l f t as b .normal) (fr::cs)) w₁ (seen R fr.fn d):=by
 have k1:(fr.kind==ZaD)=false:=by simpa using hk
 unfold stepG.apply;simp only[h,k1,zv,AO,if_true];simp
theorem Kb {v:Zc}(hk:fr.kind≠ .early)(h:s.runT R w #[]=(.halt (.panic v) w₁,d)):stepG.apply R true fr cs none s w=.go (AO (fr.raise [{v,recovered:=false}]) cs) w₁ (seen R fr.fn d):=by
 have k1:(fr.kind==ZaD)=false:=by simpa using hk
 unfold stepG.apply;simp only[h,k1,zv,AO,if_true];simp
theorem bU {x:Halt}(h:s.runT R w #[]=(.halt x w₁,d))(hx:GG x):∃o u e,stepG.apply R true fr cs none s w=.ended o u e:=by
 unfold stepG.apply;simp only[h,if_true];cases x with
 |stuck s=>exact⟨_,_,_,rfl⟩
 |unsupported u=>cases u<;>first|exact hx.elim|exact⟨_,_,_,rfl⟩
 |_=>exact hx.elim
end
theorem G9.wT {fr Bd:ZA}(h:G9 P' P K ρ fr Bd)(BI:fr.todo≠ []):(∀d r s k,fr.todo≠ .call d true r s::k)∧∀d r s k,Bd.todo≠ .call d true r s::k:=by
 obtain⟨k,hk,hl⟩:=h.todo;rw[hk];generalize fr.todo=l at hl BI;cases hl with
 |nil=>exact absurd rfl BI
 |cons hx ht=>cases hx<;>exact⟨fun _ _ _ _ x=>(by cases x),fun _ _ _ _ x=>(by cases x)⟩
theorem NM (E:Env P' P ρ){fr Bd:ZA}{cs cs':List ZA}(hF:G9 P' P K ρ fr Bd)(BI:fr.todo≠ []){s s':Sem Next}(hs:Dm P' P False bn ρ s s'){w w':Zb}(hw:Hv ρ w w')
  (h:∀o u e,stepG.apply P' true fr cs none s w≠ .ended o u e):
  ∃AE w₁ es,stepG.apply P' true fr cs none s w=.go AE w₁ es∧∃σ w₁' CZ Bu,Fx ρ σ w w₁ w' w₁' es Bu∧stepG.apply P true Bd cs' none s' w'=.go CZ w₁' Bu∧Out P' P K σ cs cs' AE CZ∧lp (stepG.apply P' true fr cs none s) w AE w₁ es:=by
 have n2:(P.funcs[Bd.fn]?).any (·.norace)=false:=by rw[hF.fn];exact hF.loud.2
 have nc:=hF.wT BI;rcases hs.lock hw with⟨x,u,f,hr,hx⟩|⟨σ,a,b,w₂,Cu,d,d',e1,e2,hq,L,hc⟩|⟨σ,v,v',w₂,Cu,d,d',e1,e2,hv,L,hc⟩
 ·obtain⟨o,u,e,he⟩:=bU (fr:=fr) (cs:=cs) hr hx
  exact(h _ _ _ he).elim
 ·have E':=E.mono L.le
  have F':=hF.mono L.le;have s1:=L.BU hF.loud.1;have s2:=L.DZ n2;cases hq with
  |value hv=>
   exact⟨_,_,_,by rw[J_ hF.pA e1,s1],σ,Cu,_,_,L,by rw[J_ hF.ne2 e2,s2],.stay (F'.finish hv BI),fun t ht=>by rw[J_ hF.pA (hc t ht),s1]⟩
  |skip=>
   exact⟨_,_,_,by rw[LK hF.pA e1,s1],σ,Cu,_,_,L,by rw[LK hF.ne2 e2,s2],.stay (F'.finish (VR.undef _) BI),fun t ht=>by rw[LK hF.pA (hc t ht),s1]⟩
  | @enter f a a' hf ha=>
   refine⟨_,_,_,by rw[J' hF.pA nc.1 e1,s1],σ,Cu,_,_,L,by rw[J' hF.ne2 nc.2 e2,s2],?_,fun t ht=>by rw[J' hF.pA nc.1 (hc t ht),s1]⟩;rcases hf with hf|hf
   ·exact .push (G9.enter E' (E'.Mz.val f hf).1 (E'.Mz.val f hf).2 ha) F' BI
   ·rcases E'.Mz.dir f _ hf with hs|hs
    ·exact .push (G9.enter E' hs.1 hs.2 ha) F' BI
    ·exact .UT hf hs ha F' BI
  |round hl hf ht has hb=>
   exact⟨_,_,_,by rw[Ka hF.pA e1,s1],σ,Cu,_,_,L,by rw[Ka hF.ne2 e2,s2],.push (G9.qE E' hl hf ht has hb) F' BI,fun t hz=>by rw[Ka hF.pA (hc t hz),s1]⟩
 ·exact⟨_,_,_,by rw[Kb hF.pA e1,L.BU hF.loud.1],σ,Cu,_,_,L,by rw[Kb hF.ne2 e2,L.DZ n2],.stay ((hF.mono L.le).raise (.cons ⟨hv,rfl,rfl,rfl,rfl⟩ .nil)),fun t ht=>by rw[Kb hF.pA (hc t ht),L.BU hF.loud.1]⟩
end
section
variable {Q:Zp}{fr:ZA}{cs:List ZA}{w w₁:Zb}{d:Array ZU}{m:Bool}
inductive EA:List Item→List Item→Prop
 |skip {k:List Item}:EA (.code .skip::k) k
 |inBlock {id:Nat} {k:List Item}:EA (.inBlock id::k) k
 |label {l:Nat} {k:List Item}:EA (.code (.label l)::k) k
 |inScope {b:Code} {k:List Item}:EA (.inScope b::k) k
 |scope {b:Code} {k:List Item}:EA (.code (.scope b)::k) (.code b:: .inScope b::k)
 |seq {a b:Code} {k:List Item}:EA (.code (.seq a b)::k) (.code a:: .code b::k)
 |block {id:Nat} {b:Code} {k:List Item}:EA (.code (.block id b)::k) (.code b:: .inBlock id::k)
 |loop {b:Code} {k:List Item}:EA (.code (.loop b)::k) (.code b:: .inLoop b::k)
 |inLoop {b:Code} {k:List Item}:EA (.inLoop b::k) (.code b:: .inLoop b::k)
 |exit {id:Nat} {k k':List Item} (h:exitTo id k=some k'):EA (.code (.exit id)::k) k'
 |Q_ {ops:Array Oper} {k:List Item}:EA (.inRegion ops []::k) k
 |region {id:Nat} {ops:Array Oper} {k:List Item}:EA (.code (.region id ops false)::k) (.inRegion ops (ZaB ops.size)::k)
theorem O0 {t:List Item}(h:EA fr.todo t):stepG.exec Q m true fr cs none w=.go (AO {fr with todo:=t} cs) w #[]:=by
 unfold stepG.exec;generalize ht:fr.todo=l at h;cases h with
 |exit hx=>simp[-Z5,AO,hx]
 |_=>simp[-Z5,AO]
theorem TH {c:Operand}{a b:Code}{k:List Item}{v:Bool}(ht:fr.todo=.code (.cond c a b)::k)(hv:fr.eval c=.bool v):
  stepG.exec Q m true fr cs none w=.go (AO {fr with todo:=.code (if v then a else b)::k} cs) w #[]:=by
 unfold stepG.exec;simp[-Z5,ht,hv,AO]
theorem Q' {c:Operand}{a b:Code}{k:List Item}(ht:fr.todo=.code (.cond c a b)::k)(hv:∀v,fr.eval c≠ .bool v):∃o u e,stepG.exec Q m true fr cs none w=.ended o u e:=by
 unfold stepG.exec;simp only[ht];exact⟨_,_,_,rfl⟩
inductive Leaves:List Item→Option Code→Prop
 |done:Leaves [] none
 |ret {k:List Item}:Leaves (.code .ret::k) (some .ret)
 |exit {id:Nat} {k:List Item} (h:exitTo id k=none):Leaves (.code (.exit id)::k) (some (.exit id))
theorem Fy {j:Option Code}{l:Nat}{v:Zc}{c:ZA}{r:List ZA}(hk:fr.kind=.normal)(hl:Leaves fr.todo j)(hr:fr.roundOf=some l)(he:(ZaM l j).runT Q w #[]=(.ok v w₁,d)):
  stepG.exec Q m true fr (c::r) none w=.go (AO (c.finish v) r) w₁ (seen Q fr.fn d):=by
 unfold stepG.exec;generalize ht:fr.todo=l at hl;cases hl with
 |exit hx=>simp[-Z5,AO,hx,hr,he,zv,doReturn,hk]
 |_=>simp[-Z5,AO,hr,he,zv,doReturn,hk]
theorem JE {j:Option Code}{l:Nat}{x:Halt}(hl:Leaves fr.todo j)(hr:fr.roundOf=some l)(he:(ZaM l j).runT Q w #[]=(.halt x w₁,d)):
  ∃o u e,stepG.exec Q m true fr cs none w=.ended o u e:=by
 unfold stepG.exec;generalize ht:fr.todo=l at hl;cases hl with
 |exit hx=>simp[-Z5,hx,hr,he,zv]
 |_=>simp[-Z5,hr,he,zv]
theorem Gp {j:Option Code}(hl:Leaves fr.todo j)(hr:fr.roundOf=none)(hj:j=none∨j=some .ret):stepG.exec Q m true fr cs none w=.go (AO {fr with mode:=.returning} cs) w #[]:=by
 unfold stepG.exec;generalize ht:fr.todo=l at hl;cases hl with
 |exit hx=>rcases hj with h|h<;>cases h
 |_=>simp[-Z5,AO,hr]
theorem JF {id:Nat}(hl:Leaves fr.todo (some (.exit id)))(hr:fr.roundOf=none):∃o u e,stepG.exec Q m true fr cs none w=.ended o u e:=by
 unfold stepG.exec;generalize ht:fr.todo=l at hl;cases hl with
 |exit hx=>simp[-Z5,hx,hr]
theorem NN {id:Nat}{ops:Array Oper}{k:List Item}{t:Nat}(ht:fr.todo=.code (.region id ops true)::k)(he:(choose (.order fr.fn id)).runT Q w #[]=(.ok t w₁,d)):
  stepG.exec Q m true fr cs none w=.go (AO {fr with todo:=.inRegion ops (Region.schedule (Q.follows .mixedOrders) ops t)::k} cs) w₁ #[]:=by
 have he':(choose (.order fr.fn id)).run Q w=.ok t w₁:=by
  have:=congrArg Prod.fst he;simpa[Sem.run]using this
 unfold stepG.exec;simp[-Z5,ht,he',AO]
theorem UU {ops:Array Oper}{i:Nat}{is:List Nat}{k:List Item}{o:Oper}(ht:fr.todo=.inRegion ops (i::is)::k)(ho:ops[i]?=some o)(hw:zU o (yielded ops fr.tmps)=true)(hd:∀c,o.op≠ .defer c):
  stepG.exec Q m true fr cs none w=stepG.apply Q true fr cs none (execOp fr.eval o) w:=by
 unfold stepG.exec;simp only[ht,ho,hw,Option.map_some,Zw,if_true];unfold stepG.oper Frame.oper?;simp only[ht,ho];split
 ·exact absurd ‹_› (hd _)
 ·rfl
theorem FU {ops:Array Oper}{i:Nat}{is:List Nat}{k:List Item}(ht:fr.todo=.inRegion ops (i::is)::k)(hw:((ops[i]?).map (zU · (yielded ops fr.tmps))).getD false=false):
  stepG.exec Q m true fr cs none w=.go (AO (fr.finish Ze) cs) w #[]:=by
 unfold stepG.exec;simp[-Z5,ht,hw,AO]
theorem LM {k:List Item}(ht:fr.todo=.beginRound::k):
  stepG.exec Q m true fr cs none w=stepG.apply Q true fr cs none (do fr.roundOf.elim (stuck "beginRound: no round") Zap;pure .skip) w:=by
 unfold stepG.exec;simp only[ht]
theorem H3 {l:Nat}{k:List Item}{j:Option Code}(ht:fr.todo=.endRangeFunc l::k)(he:(Zar l).runT Q w #[]=(.ok j w₁,d)):
  stepG.exec Q m true fr cs none w=.go (AO {fr with todo:=(j.map Item.code).toList++k} cs) w₁ (seen Q fr.fn d):=by
 unfold stepG.exec;simp[-Z5,ht,he,AO,zv]
theorem Ei {l:Nat}{k:List Item}{v:Zc}(ht:fr.todo=.endRangeFunc l::k)(he:(Zar l).runT Q w #[]=(.halt (.panic v) w₁,d)):
  stepG.exec Q m true fr cs none w=.go (AO (fr.raise [{v,recovered:=false}]) cs) w₁ (seen Q fr.fn d):=by
 unfold stepG.exec;simp[-Z5,ht,he,AO,zv]
theorem LN {l:Nat}{k:List Item}{x:Halt}(ht:fr.todo=.endRangeFunc l::k)(he:(Zar l).runT Q w #[]=(.halt x w₁,d))(hx:GG x):
  ∃o u e,stepG.exec Q m true fr cs none w=.ended o u e:=by
 unfold stepG.exec;cases x<;>first|exact hx.elim|simp[-Z5,ht,he,zv]
theorem UW {l:Nat}{k:List Item}(ht:fr.todo=.inRangeFunc l::k):∃o u e,stepG.exec Q m true fr cs none w=.ended o u e:=by
 unfold stepG.exec;simp[-Z5,ht]
def rangeCall (f:Operand)(l:Nat):Call:= {callee:=.value f,args:= #[.const (.func (.yield l) #[] #[])],argTypes:= #[]}
theorem Jd {f:Operand}{ps:Array Tmp}{a b:Code}{k:List Item}{l:Nat}{mk:List Deferred}(ht:fr.todo=.code (.rangeFunc f ps a b)::k)
  (he:(YU fr.fn fr.tmps ps a b fr.roundOf).runT Q w #[]=(.ok (l,mk) w₁,d)):
  stepG.exec Q m true fr cs none w=zv (seen Q fr.fn d) (stepG.apply Q true {fr with todo:=.inRangeFunc l::k,defers:=mk++fr.defers} cs none
   (do let d ←resolve fr.eval (rangeCall f l) 0;invoke d.target d.args) w₁):=by
 unfold stepG.exec;simp only[ht,he]
 rfl
theorem JG {f:Operand}{ps:Array Tmp}{a b:Code}{k:List Item}{x:Halt}(ht:fr.todo=.code (.rangeFunc f ps a b)::k)
  (he:(YU fr.fn fr.tmps ps a b fr.roundOf).runT Q w #[]=(.halt x w₁,d)):∃o u e,stepG.exec Q m true fr cs none w=.ended o u e:=by
 unfold stepG.exec;simp[-Z5,ht,he,zv]
theorem Ed {b:Nat}{a:Array Zc}{ds calls:List Deferred}(ht:fr.defers= {target:=.collected b,args:=a}::ds)(he:(Yj b).runT Q w #[]=(.ok calls w₁,d)):
  unwind Q m fr cs none w=.go (AO {fr with defers:=calls++ds} cs) w₁ (seen Q fr.fn d):=by
 unfold unwind;simp[-Z5,ht,he,zv,AO]
theorem DK {b:Nat}{a:Array Zc}{ds:List Deferred}{x:Halt}(ht:fr.defers= {target:=.collected b,args:=a}::ds)(he:(Yj b).runT Q w #[]=(.halt x w₁,d)):
  ∃o u e,unwind Q m fr cs none w=.ended o u e:=by
 unfold unwind;simp[-Z5,ht,he,zv]
theorem DI {fn:Func}{v:Zc}{c:ZA}{r:List ZA}(ht:fr.defers=[])(hm:fr.mode=.returning)(hk:fr.kind=.normal)(hf:Q.funcs[fr.fn]?=some fn)(he:(results fn fr.tmps).runT Q w #[]=(.ok v w₁,d)):
  unwind Q m fr (c::r) none w=.go (AO (c.finish v) r) w₁ (seen Q fr.fn d):=by
 unfold unwind;simp[-Z5,ht,hm,hf,he,zv,AO,doReturn,hk]
theorem G' {fn:Func}{x:Halt}(ht:fr.defers=[])(hm:fr.mode=.returning)(hf:Q.funcs[fr.fn]?=some fn)(he:(results fn fr.tmps).runT Q w #[]=(.halt x w₁,d)):
  ∃o u e,unwind Q m fr cs none w=.ended o u e:=by
 unfold unwind;simp only[ht,hm,hf,he];split<;>simp_all[zv]
theorem UX {ch:List zc}{c:ZA}{r:List ZA}(ht:fr.defers=[])(hm:fr.mode=.panicking ch):(∀w,∃o u e,unwind Q m fr (c::r) none w=.ended o u e)∨∀w,unwind Q m fr (c::r) none w=.go (AO (c.raise ch) r) w #[]:=by
 unfold unwind;simp only[ht,hm];split
 ·exact .inl fun _=>⟨_,_,_,rfl⟩
 ·exact .inr fun _=>rfl
theorem CU {ch:List zc}{c:ZA}{r:List ZA}{fn:Func}(ht:fr.defers=[])(hm:fr.mode=.panicking ch)(hf:Q.funcs[fr.fn]?=some fn):unwind Q m fr (c::r) none w=.go (AO (c.raise ch) r) w #[]:=by
 unfold unwind Frame.catches;simp[-Z5,ht,hm,hf,AO]
end
section
variable {P' P:Zp}{ρ:Ren}{K:Cut}
theorem G9.TG {fr Bd:ZA}(h:G9 P' P K ρ fr Bd){l k:List Item}(hl:Eg (SY P K ρ) l k):G9 P' P K ρ {fr with todo:=l} {Bd with todo:=k++K.tail}:=
 ⟨h.fn,h.src,h.loud,h.tmps,⟨k,rfl,hl⟩,h.defers,h.mode,h.kind,h.round,h.part,h.flat,h.Au⟩
theorem Leaves.kinds {l:List Item}{j:Option Code}(h:Leaves l j):j=none∨j=some .ret∨∃id,j=some (.exit id):=by
 cases h with
 |done=>exact .inl rfl
 |ret=>exact .inr (.inl rfl)
 |exit h=>exact .inr (.inr ⟨_,rfl⟩)
theorem bV {id:Nat}{l k:List Item}(h:Eg (SY P K ρ) l k)(t:List Item):(exitTo id l=none)∨∃l' k',exitTo id l=some l'∧exitTo id (k++t)=some (k'++t)∧Eg (SY P K ρ) l' k':=by
 induction h with
 |nil=>exact .inl rfl
 | @cons x y l k hx ht ih=>
  cases hx with
  |inBlock i=>
   rw[ZaC];unfold exitTo;by_cases e:(i==id)=true
   ·simp only[e,if_true]
    exact .inr ⟨l,k,rfl,rfl,ht⟩
   ·simp only[e]
    rcases ih with h|⟨l',k',h1,h2,h3⟩
    ·exact .inl h
    ·exact .inr ⟨l',k',h1,h2,h3⟩
  |_=>
   rw[ZaC];unfold exitTo;rcases ih with h|⟨l',k',h1,h2,h3⟩
   ·exact .inl h
   ·exact .inr ⟨l',k',h1,h2,h3⟩
theorem WI {id:Nat}{l k:List Item}(h:Eg (SY P K ρ) l k)(hn:exitTo id l=none):exitTo id k=none:=by
 induction h with
 |nil=>rfl
 | @cons x y l k hx ht ih=>
  cases hx with
  |inBlock i=>
   unfold exitTo at hn⊢;by_cases e:(i==id)=true
   ·simp only[e,if_true]at hn;cases hn
   ·simp only[e]at hn⊢
    exact ih hn
  |_=>
   unfold exitTo at hn⊢;exact ih hn
theorem WJ {dead:Nat→Bool}{ok:OL}{ops:Array Oper}(ho:TE P ok dead ops=true){t t':Array Zc}(h:OY dead ρ t t'):yielded ops t=yielded ops t':=by
 funext j
 unfold yielded;cases hj:ops[j]? with
 |none=>rfl
 |some o=>
  cases hd:o.dst with
  |none=>simp[hd]
  |some d=>
   have OZ:=(NL ho hj).2 d hd;simp only[Option.bind_some,hd];cases hx:t[d]? with
   |none=>
    have:t'[d]?=none:=by rw[Array.getElem?_eq_none_iff]at*;rw[←h.size];exact hx
    rw[this]
   |some x=>
    obtain⟨hi,_⟩:=Za.1 hx;have Df:d<t'.size:=h.size▸hi;rw[ZB Df];have:=h.at_ d _ _ OZ hx (ZB Df);generalize t'[d]=y at this;cases this<;>first|rfl|(rename_i hy;cases y<;>first|(cases hy;done)|rfl)
def acx (P' P:Zp)(K:Cut)(ρ:Ren)(cs cs':List ZA)(w w':Zb)(AE:Zg)(w₁:Zb)(es:Array ZU)(F:Zb→GStep)(s:GStep):Prop:=
 ∃σ w₁' CZ Bu,Fx ρ σ w w₁ w' w₁' es Bu∧s=.go CZ w₁' Bu∧Out P' P K σ cs cs' AE CZ∧lp F w AE w₁ es
def Does (P' P:Zp)(K:Cut)(ρ:Ren)(cs cs':List ZA)(w w':Zb)(F:Zb→GStep)(s:GStep):Prop:=
 ∃AE w₁ es,F w=.go AE w₁ es∧acx P' P K ρ cs cs' w w' AE w₁ es F s
theorem EX {f f':ZA}{cs cs':List ZA}{w w':Zb}(hw:Hv ρ w w'){F:Zb→GStep}{s':GStep}(hl:∀w,F w=.go (AO f cs) w #[])(hr:s'=.go (AO f' cs') w' #[])(hF:G9 P' P K ρ f f'):
  Does P' P K ρ cs cs' w w' F s':=by
 exact⟨_,_,_,hl w,ρ,w',_,_,Fx.refl hw.wr,hr,.stay hF,fun t _=>hl _⟩
theorem lr (T:Twins P' P)(E:Env P' P ρ)(hd:BL≤P.depth)(hK:K.seg=false→K.Full){fr Bd:ZA}{cs cs':List ZA}(hF:G9 P' P K ρ fr Bd)(_hrun:fr.mode=.run)
  (Bn:K.seg=true→fr.todo≠ []) (hcs:cs≠ []) (Kc:cs'≠ []∨fr.roundOf=none) {w w':Zb} (hw:Hv ρ w w') {m m':Bool}
  (h:∀o u e,stepG.exec P' m true fr cs none w≠ .ended o u e):Does P' P K ρ cs cs' w w' (stepG.exec P' m true fr cs none) (stepG.exec P m' true Bd cs' none w'):=by
 have n2:(P.funcs[Bd.fn]?).any (·.norace)=false:=by rw[hF.fn];exact hF.loud.2
 obtain⟨k,hk,hl⟩:=hF.todo;have leave:∀(j:Option Code),K.seg=false→Leaves fr.todo j→Leaves Bd.todo j→(∀c,j=some c→ρ.good c=true)→Does P' P K ρ cs cs' w w' (stepG.exec P' m true fr cs none) (stepG.exec P m' true Bd cs' none w'):=by
  intro j JR h1 h2 hj;have J9:=hF.round;cases e:fr.roundOf with
  |none=>
   have e':Bd.roundOf=none:=by rw[e]at J9;cases e':Bd.roundOf with
    |none=>rfl
    |some x=>rw[e']at J9;exact J9.elim
   by_cases lx:j=none∨j=some .ret
   ·refine EX hw (fun _=>Gp h1 e lx) (Gp h2 e' lx) ?_
    exact⟨hF.fn,hF.src,hF.loud,hF.tmps,hF.todo,hF.defers,.returning,hF.kind,hF.round,fun x=>(by rw[JR]at x;cases x),hF.flat,hF.Au⟩
   ·exfalso
    rcases h1.kinds with hj|hj|⟨id,hj⟩
    ·exact lx (.inl hj)
    ·exact lx (.inr hj)
    ·subst hj
     obtain⟨o,u,e2,he⟩:=JF (Q:=P') (cs:=cs) (w:=w) (m:=m) h1 e;exact(h _ _ _ he).elim
  |some l=>
   obtain⟨l',e',V9⟩:∃l',Bd.roundOf=some l'∧ρ l=some l':=by
    rw[e]at J9;cases e':Bd.roundOf with
    |none=>rw[e']at J9;exact J9.elim
    |some x=>rw[e']at J9;exact⟨x,rfl,J9⟩
   obtain⟨c,r,rfl⟩:=YZ hcs;obtain⟨c',r',rfl⟩:=YZ (Kc.resolve_right (by rw[e];intro x;cases x));rcases(bR (P':=P') (P:=P) (fz:=False) V9 j hj).lock hw with⟨x,u,f,hr,hx⟩|⟨σ,a,b,w₂,Cu,d,d',e1,e2,hq,L,hc⟩|⟨σ,v,v',w₂,Cu,d,d',e1,e2,hv,L,hc⟩
   ·obtain⟨o,u2,e3,he⟩:=JE (cs:=c::r) (m:=m) h1 e hr
    exact(h _ _ _ he).elim
   ·exact⟨_,_,_,by rw[Fy hF.kind.1 h1 e e1,L.BU hF.loud.1],σ,Cu,_,_,L,by rw[Fy (hF.lj JR) h2 e' e2,L.DZ n2],.pop JR hq rfl rfl,fun t hz=>by rw[Fy hF.kind.1 h1 e (hc t hz),L.BU hF.loud.1]⟩
   ·obtain⟨o,u2,e3,he⟩:=JE (cs:=c::r) (m:=m) h1 e e1
    exact(h _ _ _ he).elim
 have silent:∀(t k':List Item),EA fr.todo t→EA Bd.todo (k'++K.tail)→Eg (SY P K ρ) t k'→Does P' P K ρ cs cs' w w' (stepG.exec P' m true fr cs none) (stepG.exec P m' true Bd cs' none w'):=fun t k' h1 h2 ht=>
  EX hw (fun _=>O0 h1) (O0 h2) (hF.TG ht)
 cases ht:fr.todo with
 |nil=>
  have JR:K.seg=false:=by
   cases hs:K.seg with
   |false=>rfl
   |true=>exact absurd ht (Bn hs)
  rw[ht]at hl;cases hl;refine leave none JR (by rw[ht];exact .done) ?_ (fun c x=>by cases x);rw[hk,(hK JR).1];exact .done
 |cons x l=>
  rw[ht]at hl;cases hl with
  | @cons _ y _ kl hx Az=>
   have JS:Bd.todo=y::(kl++K.tail):=hk;cases hx with
   |inBlock id=>exact silent l kl (by rw[ht];exact .inBlock) (by rw[JS];exact .inBlock) Az
   | @inLoop b hb=>exact silent _ (.code b:: .inLoop b::kl) (by rw[ht];exact .inLoop) (by rw[JS];exact .inLoop) (.cons (.code hb) (.cons (.inLoop hb) Az))
   |inScope hb=>exact silent l kl (by rw[ht];exact .inScope) (by rw[JS];exact .inScope) Az
   | @inRegion ops is ho=>
    cases is with
    |nil=>exact silent l kl (by rw[ht];exact .Q_) (by rw[JS];exact .Q_) Az
    |cons i is=>
     have hy:=WJ ho hF.tmps;cases hi:ops[i]? with
     |none=>
      refine EX hw (fun _=>FU ht (by rw[hi];rfl)) (FU JS (by rw[hi];rfl)) (hF.finish (VR.undef _) (by rw[ht];intro x;cases x))
     |some o=>
      obtain⟨pB,ly⟩:=NL ho hi;cases hwn:zU o (yielded ops fr.tmps) with
      |false=>
       exact EX hw (fun _=>FU ht (by rw[hi];simpa using hwn)) (FU JS (by rw[hi, ←hy];simpa using hwn)) (hF.finish (VR.undef _) (by rw[ht];intro x;cases x))
      |true=>
       have hnd:∀c,o.op≠ .defer c:=by
        intro c hc;rw[hc]at pB;cases pB
       have Hp:stepG.exec P' m true fr cs none=stepG.apply P' true fr cs none (execOp fr.eval o):=funext fun w=>UU ht hi hwn hnd;rw[UU ht hi hwn hnd]at h;rw[UU JS hi (by rw[←hy];exact hwn) hnd,Hp];exact NM E hF (by rw[ht];intro x;cases x) (lh T E.base E.Mz.same hd hF.tmps pB) hw h
   |ML JH hs=>
    obtain⟨o,u,e,he⟩:=UW (Q:=P') (cs:=cs) (w:=w) (m:=m) ht;exact(h _ _ _ he).elim
   | @Iv lo lo' JH hs=>
    rcases(gZ T (fz:=False) E.base JH).lock hw with⟨x,u,f,hr,hx⟩|⟨σ,a,b,w₂,Cu,d,d',e1,e2,⟨rfl,hq⟩,L,hc⟩|⟨σ,v,v',w₂,Cu,d,d',e1,e2,hv,L,hc⟩
    ·obtain⟨o,u2,e3,he⟩:=LN (cs:=cs) (m:=m) ht hr hx
     exact(h _ _ _ he).elim
    ·refine⟨_,_,_,by rw[H3 ht e1,L.BU hF.loud.1],σ,Cu,_,_,L,by rw[H3 JS e2,L.DZ n2],.stay ?_,fun t hz=>by rw[H3 ht (hc t hz),L.BU hF.loud.1]⟩
     rw[←ZaQ];refine(hF.mono L.le).TG (Eg.append ?_ (Az.mono fun _ _=>SY.mono L.le));cases a with
     |none=>exact .nil
     |some c=>
      have:=hq c rfl;rw[(E.mono L.le).good]at this;refine .cons (.code ?_) .nil;rw[(hK hs).2.2,hs];exact this
    ·exact⟨_,_,_,by rw[Ei ht e1,L.BU hF.loud.1],σ,Cu,_,_,L,by rw[Ei JS e2,L.DZ n2],.stay ((hF.mono L.le).raise (.cons ⟨hv,rfl,rfl,rfl,rfl⟩ .nil)),fun t hz=>by rw[Ei ht (hc t hz),L.BU hF.loud.1]⟩
   |beginRound hs=>
    have Hp:stepG.exec P' m true fr cs none=stepG.apply P' true fr cs none (do fr.roundOf.elim (stuck "beginRound: no round") Zap;pure .skip):=funext fun w=>LM ht;rw[LM ht]at h;rw[LM JS,Hp];refine NM E hF (by rw[ht];intro x;cases x) (Al.ok ?_) hw h;have J9:=hF.round;cases e:fr.roundOf with
    |none=>exact Cs
    |some lo=>
     cases e':Bd.roundOf with
     |none=>rw[e,e']at J9;exact J9.elim
     |some lo'=>
      rw[e,e']at J9;exact Ac _ (UR T E.base J9) fun _ _ _ _ _=>Ad .skip
   | @code c hc=>
    cases c with
    |skip=>exact silent l kl (by rw[ht];exact .skip) (by rw[JS];exact .skip) Az
    |region id ops draw=>
     have ho:TE P ρ.ok K.dead ops=true:=hc;cases draw with
     |false=>exact silent _ (.inRegion ops (ZaB ops.size)::kl) (by rw[ht];exact .region) (by rw[JS];exact .region) (.cons (.inRegion _ ho) Az)
     |true=>
      have hq:Al P' P False F4 ρ (choose (.order fr.fn id)) (choose (.order Bd.fn id)):=by rw[hF.fn];exact G2 _
      have ev:∀(Q:Zp) (q:Question) (u:Zb),((choose q).runT Q u #[]).2= #[]:=by
       intro Q q u;unfold choose;rw[ZF];split<;>(unfold ZF;rfl)
      rcases hq.lock hw with⟨x,u,f,hr,hx⟩|⟨σ,a,b,w₂,Cu,d,d',e1,e2,Eh,L,hcc⟩|⟨σ,v,v',w₂,Cu,d,d',e1,e2,hv,L,hc⟩
      ·exfalso
       unfold choose at hr;rw[ZF]at hr;split at hr<;>(unfold ZF at hr;cases hr)
      ·cases Eh
       have d1:d= #[]:=by have:=ev P' (.order fr.fn id) w;rw[e1]at this;exact this
       have d2:d'= #[]:=by have:=ev P (.order Bd.fn id) w';rw[e2]at this;exact this
       subst d1 d2;refine⟨_,_,_,NN ht e1,σ,Cu,_,_,L,NN JS e2,.stay ?_,fun t hz=>NN ht (hcc t hz)⟩;have:P'.follows .mixedOrders=P.follows .mixedOrders:=by unfold Tables.follows;rw[T.tables]
       rw[this];exact(hF.mono L.le).TG (k:=.inRegion ops _::kl) (.cons (.inRegion _ (by rw[L.le.2.1];exact ho)) (Az.mono fun _ _=>SY.mono L.le))
      ·exfalso
       unfold choose at e1;rw[ZF]at e1;split at e1<;>(unfold ZF at e1;cases e1)
    |seq a b=>
     have Eh:A_ P ρ.ok K.dead K.seg a=true∧A_ P ρ.ok K.dead K.seg b=true:=by simpa[A_]using hc
     exact silent _ (.code a:: .code b::kl) (by rw[ht];exact .seq) (by rw[JS];exact .seq) (.cons (.code Eh.1) (.cons (.code Eh.2) Az))
    |cond c a b=>
     have Eh:(g9 P.globals.size ρ.ok K.dead c=true∧A_ P ρ.ok K.dead K.seg a=true)∧A_ P ρ.ok K.dead K.seg b=true:=by simpa[A_]using hc
     have hv:=LI E.base hF.tmps Eh.1.1;by_cases hb:∃v,fr.eval c=.bool v
     ·obtain⟨v,hvv⟩:=hb
      have aiw:Bd.eval c=.bool v:=by
       rw[hvv]at hv;generalize Bd.eval c=y at hv;cases hv;rfl
      refine EX hw (fun _=>TH ht hvv) (TH JS aiw) ?_;refine hF.TG (k:=.code (if v then a else b)::kl) (.cons (.code ?_) Az);cases v
      ·exact Eh.2
      ·exact Eh.1.2
     ·obtain⟨o,u,e,he⟩:=Q' (Q:=P') (cs:=cs) (w:=w) (m:=m) ht (fun v hv=>hb ⟨v,hv⟩)
      exact(h _ _ _ he).elim
    |block id b=>exact silent _ (.code b:: .inBlock id::kl) (by rw[ht];exact .block) (by rw[JS];exact .block) (.cons (.code hc) (.cons (.inBlock id) Az))
    |loop b=>exact silent _ (.code b:: .inLoop b::kl) (by rw[ht];exact .loop) (by rw[JS];exact .loop) (.cons (.code hc) (.cons (.inLoop hc) Az))
    |label id=>exact silent l kl (by rw[ht];exact .label) (by rw[JS];exact .label) Az
    |scope b=>exact silent _ (.code b:: .inScope b::kl) (by rw[ht];exact .scope) (by rw[JS];exact .scope) (.cons (.code hc) (.cons (.inScope hc) Az))
    |exit id=>
     rcases bV (id:=id) Az K.tail with hn|⟨l',k',h1,h2,h3⟩
     ·cases hs:K.seg with
      |false=>
       refine leave (some (.exit id)) hs (by rw[ht];exact .exit hn) ?_ (fun c x=>by cases x;rw[E.good];rfl);rw[JS];refine .exit ?_;rw[(hK hs).1];show exitTo id (kl++ [])=none;rw[List.append_nil];exact WI Az hn
      |true=>
       obtain⟨o,u,e,he⟩:=JF (Q:=P') (cs:=cs) (w:=w) (m:=m) (id:=id) (by rw[ht];exact .exit hn) (hF.part hs).1;exact(h _ _ _ he).elim
     ·exact silent l' k' (by rw[ht];exact .exit h1) (by rw[JS];exact .exit h2) h3
    |ret=>
     have hs:K.seg=false:=by simpa[A_]using hc
     exact leave (some .ret) hs (by rw[ht];exact .ret) (by rw[JS];exact .ret) (fun c x=>by cases x;rw[E.good];rfl)
    |rangeFunc f ps a b=>
     have Eh:((K.seg=false∧g9 P.globals.size ρ.ok K.dead f=true)∧A_ P ρ.ok K.dead K.seg a=true)∧A_ P ρ.ok K.dead K.seg b=true:=by simpa[A_]using hc
     obtain⟨⟨⟨hs,hf⟩,ha⟩,hb⟩:=Eh;have pC:=hK hs;have TF:BN ρ fr.tmps Bd.tmps:=OY.all (by have:=hF.tmps;rw[pC.2.2]at this;exact this);rw[pC.2.2,hs]at ha hb;have hen:Al P' P False (fun σ p p'=>σ p.1=some p'.1∧Eg (d_ σ) p.2 p'.2) ρ (YU fr.fn fr.tmps ps a b fr.roundOf) (YU Bd.fn Bd.tmps ps a b Bd.roundOf):=by
      rw[hF.fn];exact WC (hF.src hs) TF ps (by rw[E.good];exact ha) (by rw[E.good];exact hb) hF.round
     rcases hen.lock hw with⟨x,u,f',hr,hx⟩|⟨σ,p,p',w₂,Cu,d,d',e1,e2,⟨lz,UY⟩,L,hcc⟩|⟨σ,v,v',w₂,Cu,d,d',e1,e2,hv,L,hc⟩
     ·obtain⟨o,u2,e3,he⟩:=JG (cs:=cs) (m:=m) ht hr
      exact(h _ _ _ he).elim
     ·obtain⟨lA,mk⟩:=p
      obtain⟨ez,mk'⟩:=p';dsimp only at lz UY;rw[Jd ht e1,L.BU hF.loud.1]at h;rw[Jd JS e2,L.DZ n2];have wU:=E.mono L.le;have H4:=hF.mono L.le;have aix:G9 P' P K σ {fr with todo:=.inRangeFunc lA::l,defers:=mk++fr.defers} {Bd with todo:=.inRangeFunc ez::(kl++K.tail),defers:=mk'++Bd.defers}:=by
       obtain⟨dd,hd1,hd2⟩:=H4.defers;refine⟨H4.fn,H4.src,H4.loud,H4.tmps,⟨.inRangeFunc ez::kl,rfl,.cons (.ML lz hs) (Az.mono fun _ _=>SY.mono L.le)⟩,⟨mk'++dd,?_,UY.append hd2⟩,H4.mode,H4.kind,H4.round,fun x=>(by rw[hs]at x;cases x),H4.flat,H4.Au⟩;show mk'++Bd.defers=_;rw[hd1,ZaQ]
      have WK:Al P' P False bn σ (do let d ←resolve fr.eval (rangeCall f lA) 0;invoke d.target d.args) (do let d ←resolve Bd.eval (rangeCall f ez) 0;invoke d.target d.args):=by
       have hfe:=(LI E.base hF.tmps hf).mono L.le;have hy:VR σ (.func (.yield lA) #[] #[]) (.func (.yield ez) #[] #[]):=.Wm (.yield lz) Bt.nil Bt.nil;by_cases wR:fr.eval f=tJ
       ·have e:(do let d ←resolve fr.eval (rangeCall f lA) 0;invoke d.target d.args)=((zS tJ ((rangeCall f lA).args.map fr.eval)).bind fun d=>invoke d.target d.args):=by
         unfold resolve;show(zS (fr.eval f) _).bind _=_;rw[wR]
        rw[e];exact .G0 (QZ P' T.kP _)
       refine Ac _ (TD hfe wR (by simpa[rangeCall,Frame.eval]using Bt.single hy)) fun τ d d' hle hd=>?_;exact WE T (wU.mono hle).base (wU.mono hle).Mz.same hd.target hd.args
      obtain⟨AE,w₁,e,he,τ,lB,g',Bu,acz,s2,hO,hT⟩:=NM (cs':=cs') wU aix (fun x=>by cases x) WK.ok ⟨L.world.obj,hen.al hw e1 e2,L.world.os⟩ (fun o u e hx=>h o u (d++e) (by rw[hx];rfl));refine⟨AE,w₁,d++e,by rw[Jd ht e1,L.BU hF.loud.1,he];rfl,τ,lB,g',d'++Bu,L.trans acz,by rw[s2];rfl,hO,fun t hz=>?_⟩;have f1:=L.Fc.drawn;have f2:=acz.Fc.drawn;rw[Jd ht (hcc t fun i x y=>hz i x (Zl y f2)),L.BU hF.loud.1];have:=hT t fun i x y=>by rw[L.Fc.OO];exact hz i (Zx f1 x) y
      rw[this];rfl
     ·obtain⟨o,u2,e3,he⟩:=JG (cs:=cs) (m:=m) ht e1
      exact(h _ _ _ he).elim
    |_=>cases hc
theorem bW (T:Twins P' P)(E:Env P' P ρ)(hK:K.seg=false→K.Full){fr Bd:ZA}{cs cs':List ZA}(hF:G9 P' P K ρ fr Bd)(Bs:fr.mode≠ .run)
  (hcs:cs≠ []) (Kc:cs'≠ []∨¬(fr.mode=.returning∧fr.defers=[])) {w w':Zb} (hw:Hv ρ w w') {m m':Bool}
  (h:∀o u e,unwind P' m fr cs none w≠ .ended o u e):((K.seg=true∨cs'=[])∧∃c r x x',cs=c::r∧Eg (j9 ρ) x x'∧∀u,unwind P' m fr cs none u=.go (AO (c.raise x) r) u #[])∨Does P' P K ρ cs cs' w w' (unwind P' m fr cs none) (unwind P m' Bd cs' none w'):=by
 have n2:(P.funcs[Bd.fn]?).any (·.norace)=false:=by rw[hF.fn];exact hF.loud.2
 obtain⟨c,r,rfl⟩:=YZ hcs;obtain⟨k,hk,hl⟩:=hF.defers;cases JP:fr.defers with
 |cons d ds=>
  rw[JP]at hl;cases hl with
  | @cons _ y _ kl hx Az=>
   cases hx with
   | @mk b b' a a' hb=>
    have JS:Bd.defers= {target:=.collected b',args:=a'}::(kl++K.ey):=hk;rcases(QY (P':=P') (P:=P) (fz:=False) hb).lock hw with⟨x,u,f',hr,hx⟩|⟨σ,p,p',w₂,Cu,d,d',e1,e2,⟨rfl,rfl⟩,L,hc⟩|⟨σ,v,v',w₂,Cu,d,d',e1,e2,hv,L,hc⟩
    ·obtain⟨o,u2,e3,he⟩:=DK (cs:=c::r) (m:=m) JP hr
     exact(h _ _ _ he).elim
    ·refine .inr ⟨_,_,_,by rw[Ed JP e1,L.BU hF.loud.1],σ,Cu,_,_,L,by rw[Ed JS e2,L.DZ n2],.stay ?_,fun t hz=>by rw[Ed JP (hc t hz),L.BU hF.loud.1]⟩
     have H4:=hF.mono L.le;exact⟨H4.fn,H4.src,H4.loud,H4.tmps,H4.todo,⟨kl,rfl,Az.mono fun _ _=>d_.mono L.le⟩,H4.mode,H4.kind,H4.round,fun hs=>(by have:=(hF.part hs).2.2.1;rw[JP]at this;cases this),H4.flat,H4.Au⟩
    ·obtain⟨o,u2,e3,he⟩:=DK (cs:=c::r) (m:=m) JP e1
     exact(h _ _ _ he).elim
 |nil=>
  rw[JP]at hl;cases hl;have Q8:=hF.mode;cases hs:K.seg with
  |true=>
   refine .inl ⟨.inl rfl,?_⟩;cases hm:fr.mode with
   |run=>exact absurd hm Bs
   |returning=>exact absurd hm (hF.part hs).2.1
   |panicking x=>
    rcases UX (Q:=P') (m:=m) (c:=c) (r:=r) JP hm with he|he
    ·obtain⟨o,u,e,he⟩:=he w
     exact(h _ _ _ he).elim
    ·obtain⟨x',hx⟩:∃x',Eg (j9 ρ) x x':=by
      rw[hm]at Q8;generalize Bd.mode=y at Q8;cases Q8 with
      |panicking hx=>exact⟨_,hx⟩
     exact⟨c,r,x,x',rfl,hx,he⟩
  |false=>
   have pC:=hK hs;have acA:Bd.defers=[]:=by rw[hk,pC.2.1];rfl
   have TF:BN ρ fr.tmps Bd.tmps:=OY.all (by have:=hF.tmps;rw[pC.2.2]at this;exact this);obtain⟨fn,code,f1,f2,_⟩:=E.Mz.has fr.fn (hF.src hs).1 (hF.src hs).2;have f2':P.funcs[Bd.fn]?=some fn:=by rw[hF.fn];exact f2
   cases hm:fr.mode with
   |run=>exact absurd hm Bs
   |returning=>
    refine .inr ?_;obtain⟨c',r',rfl⟩:=YZ (Kc.resolve_right (fun x=>x ⟨hm,JP⟩));have hm':Bd.mode=.returning:=by
     rw[hm]at Q8;generalize Bd.mode=y at Q8;cases Q8;rfl
    rcases(ia T E.base fn TF).lock hw with⟨x,u,f',hr,hx⟩|⟨σ,a,b,w₂,Cu,d,d',e1,e2,hv,L,hc⟩|⟨σ,v,v',w₂,Cu,d,d',e1,e2,hv,L,hc⟩
    ·obtain⟨o,u2,e3,he⟩:=G' (cs:=c::r) (m:=m) JP hm f1 hr
     exact(h _ _ _ he).elim
    ·exact⟨_,_,_,by rw[DI JP hm hF.kind.1 f1 e1,L.BU hF.loud.1],σ,Cu,_,_,L,by rw[DI acA hm' (hF.lj hs) f2' e2,L.DZ n2],.pop hs hv rfl rfl,fun t hz=>by rw[DI JP hm hF.kind.1 f1 (hc t hz),L.BU hF.loud.1]⟩
    ·obtain⟨o,u2,e3,he⟩:=G' (cs:=c::r) (m:=m) JP hm f1 e1
     exact(h _ _ _ he).elim
   |panicking x=>
    obtain⟨x',hm',hx⟩:∃x',Bd.mode=.panicking x'∧Eg (j9 ρ) x x':=by
     rw[hm]at Q8;generalize Bd.mode=y at Q8;cases Q8 with
     |panicking hx=>exact⟨_,rfl,hx⟩
    cases cs' with
    |nil=>exact .inl ⟨.inr rfl,c,r,x,x',rfl,hx,fun u=>CU JP hm f1⟩
    |cons c' r'=>
    exact .inr ⟨_,_,_,CU JP hm f1,ρ,w',_,_,Fx.refl hw.wr,CU acA hm' f2',.raise hs hx rfl rfl,fun t _=>CU JP hm f1⟩
end
structure Fj where
 K:Cut
 lcs:List ZA
 wV:List ZA
 top:Bool
inductive F6 (P' P:Zp)(B:Fj)(ρ:Ren):List ZA→List ZA→Prop
 |bot {fr Bd:ZA} (h:G9 P' P B.K ρ fr Bd):F6 P' P B ρ (fr::B.lcs) (Bd::B.wV)
 |cons {fr Bd c c':ZA} {L L':List ZA} (h:G9 P' P .whole ρ fr Bd) (BI:c.todo≠ []) (t:F6 P' P B ρ (c::L) (c'::L')):F6 P' P B ρ (fr::c::L) (Bd::c'::L')
section
variable {P' P:Zp}{ρ:Ren}{B:Fj}
theorem F6.mono {σ:Ren}(hle:ρ.le σ){L L':List ZA}(h:F6 P' P B ρ L L'):F6 P' P B σ L L':=by
 induction h with
 |bot h=>exact .bot (h.mono hle)
 |cons h BI _ ih=>exact .cons (h.mono hle) BI ih
theorem F6.top {c c':ZA}{L L':List ZA}(h:F6 P' P B ρ (c::L) (c'::L')){f f':ZA}(hf:∀K,G9 P' P K ρ c c'→G9 P' P K ρ f f'):F6 P' P B ρ (f::L) (f'::L'):=by
 generalize e:c::L=M at h;generalize e':c'::L'=M' at h;cases h with
 |bot h=>cases e;cases e';exact .bot (hf _ h)
 |cons h BI t=>cases e;cases e';exact .cons (hf _ h) BI t
def qF (P' P:Zp)(B:Fj)(ρ:Ren)(g g':Zg):Prop:=∃fr cs Bd cs',g=AO fr cs∧g'=AO Bd cs'∧F6 P' P B ρ (fr::cs) (Bd::cs')
def acB (B:Fj)(σ:Ren)(g g':Zg):Prop:=B.K.seg=false∧∃c r c' r' v v',B.lcs=c::r∧B.wV=c'::r'∧VR σ v v'∧g=AO (c.finish v) r∧g'=AO (c'.finish v') r'
def PZ (B:Fj)(g:Zg):Prop:=∃c r x,B.lcs=c::r∧g=AO (c.raise x) r
def TL (B:Fj)(σ:Ren)(g:Zg):Prop:=∃c r x x',B.lcs=c::r∧g=AO (c.raise x) r∧Eg (j9 σ) x x'
theorem TL.lost {B:Fj}{σ:Ren}{g:Zg}(h:TL B σ g):PZ B g:=let⟨c,r,x,_,h1,h2,_⟩:=h;⟨c,r,x,h1,h2⟩
def eA (P' P:Zp)(B:Fj)(σ:Ren)(g g':Zg):Prop:=
 ∃fn a a' f cs f' cs',σ.ok.dir fn a.size=true∧σ.sp fn=true∧BN σ a a'∧g=AO (Zq P' fn a .normal) (f::cs)∧g'=AO (Zq P fn a' .normal) (f'::cs')∧F6 P' P B σ (f::cs) (f'::cs')∧f.todo≠ []
structure Fj.La (B:Fj):Prop where
 K:B.K.seg=false→B.K.Full
 lcs:B.lcs≠ []
 wV:B.top=false→B.wV≠ []
 qG:B.top=true→B.K.seg=false∧B.K.flat=true∧B.wV=[]
theorem BC {Q:Zp}{m:Bool}{fr:ZA}{cs:List ZA}{w:Zb}:(fr.mode=.run→Z6 Q m (AO fr cs) w=stepG.exec Q m true fr cs none w)∧(fr.mode≠ .run→Z6 Q m (AO fr cs) w=unwind Q m fr cs none w):=by
 unfold Z6 AO;cases h:fr.mode<;>simp[h]
theorem Ra {fr Bd:ZA}{K:Cut}(h:G9 P' P K ρ fr Bd):(fr.mode=.run↔Bd.mode=.run):=by
 have:=h.mode;generalize fr.mode=a at this;generalize Bd.mode=b at this;cases this<;>simp
def BM (B:Fj)(g:Zg):Prop:=
 (B.K.seg=true∧g.callers.length=B.lcs.length∧g.frame.mode=.run∧g.frame.todo=[])∨(B.top=true∧g.callers.length=B.lcs.length∧g.frame.mode=.returning∧g.frame.defers=[])
theorem F6.deep {L L':List ZA}(h:F6 P' P B ρ L L'):B.lcs.length<L.length:=by
 induction h with
 |bot h=>simp
 |cons _ _ _ ih=>simp only[zK]at ih⊢;omega
def TN (w w₁:Zb):Prop:=w.heap.size≤w₁.heap.size∧∀b o,Quiet o→b<w.heap.size→w₁.heap[b]?=some o→w.heap[b]?=some o
theorem TN.refl (w:Zb):TN w w:=⟨Zj _,fun _ _ _ _ h=>h⟩
theorem Fx.tV {ρ σ:Ren}{w w₁ w' w₁':Zb}{d d':Array ZU}(L:Fx ρ σ w w₁ w' w₁' d d'):TN w w₁:=⟨L.Fc.size,fun b o hq hl hj=>(L.Fc.awake b o hq hl hj).1⟩
theorem Rb (T:Twins P' P)(E:Env P' P ρ)(hd:BL≤P.depth)(hB:B.La){g g':Zg}(hG:qF P' P B ρ g g')(Bn:¬BM B g){w w':Zb}(hw:Hv ρ w w'){m m':Bool}
  (h:∀o u e,Z6 P' m g w≠ .ended o u e):∃AE w₁ es,Z6 P' m g w=.go AE w₁ es∧((∃σ,ρ.le σ∧TL B σ AE∧w.drawn≤w₁.drawn∧w₁.tape=w.tape∧TN w w₁∧lp (fun w=>Z6 P' m g w) w AE w₁ es)∨∃σ w₁' CZ Bu,Fx ρ σ w w₁ w' w₁' es Bu∧Z6 P m' g' w'=.go CZ w₁' Bu∧(qF P' P B σ AE CZ∨acB B σ AE CZ∨eA P' P B σ AE CZ)∧lp (fun w=>Z6 P' m g w) w AE w₁ es):=by
 obtain⟨fr,cs,Bd,cs',rfl,rfl,hS⟩:=hG;have frame:∀K,(K.seg=false→K.Full)→G9 P' P K ρ fr Bd→(K.seg=true→fr.mode=.run→fr.todo≠ [])→cs≠ []→(cs'≠ []∨(fr.roundOf=none∧¬(fr.mode=.returning∧fr.defers=[])))→
   ((K.seg=true∨cs'=[])∧∃c r x x',cs=c::r∧Eg (j9 ρ) x x'∧∀u,Z6 P' m (AO fr cs) u=.go (AO (c.raise x) r) u #[])∨Does P' P K ρ cs cs' w w' (fun w=>Z6 P' m (AO fr cs) w) (Z6 P m' (AO Bd cs') w'):=by
  intro K hK hF B3 h1 h2;by_cases hm:fr.mode=.run
  ·have Hp:(fun w=>Z6 P' m (AO fr cs) w)=stepG.exec P' m true fr cs none:=funext fun w=>BC.1 hm
   rw[BC.1 hm]at h;rw[BC.1 ((Ra hF).1 hm),Hp];exact .inr (lr T E hd hK hF hm (fun x=>B3 x hm) h1 (h2.imp id (·.1)) hw h)
  ·have Hp:(fun w=>Z6 P' m (AO fr cs) w)=unwind P' m fr cs none:=funext fun w=>BC.2 hm
   rw[BC.2 hm]at h;rw[BC.2 (fun x=>hm ((Ra hF).2 x)),Hp];exact(bW T E hK hF hm h1 (h2.imp id (·.2)) hw h).imp (fun⟨a,c,r,x,x',b,bx,d⟩=>⟨a,c,r,x,x',b,bx,fun u=>by rw[BC.2 hm];exact d u⟩) id
 generalize e:fr::cs=M at hS;generalize e':Bd::cs'=M' at hS;cases hS with
 |bot hF=>
  cases e;cases e';rcases frame B.K hB.K hF (fun hs hm ht=>Bn (.inl ⟨hs,rfl,hm,ht⟩)) hB.lcs (by
   cases NP:B.top with
   |false=>exact .inl (hB.wV NP)
   |true=>exact .inr ⟨(hF.flat (hB.qG NP).2.1).1,fun x=>Bn (.inr ⟨NP,rfl,x.1,x.2⟩)⟩) with⟨_,c,r,x,x',h1,hx,h2⟩|⟨AE,w₁,es,hg,σ,w₁',CZ,Bu,L,h1,hO,hT⟩
  ·exact⟨_,_,_,h2 w,.inl ⟨ρ,Ren.le_refl _,⟨c,r,x,x',h1,rfl,hx⟩,Zj _,rfl,TN.refl w,fun t _=>h2 _⟩⟩
  ·cases hO with
   |stay hf=>exact⟨_,_,_,hg,.inr ⟨σ,w₁',_,Bu,L,h1,.inl ⟨_,_,_,_,rfl,rfl,.bot hf⟩,hT⟩⟩
   |push hb hf BI=>exact⟨_,_,_,hg,.inr ⟨σ,w₁',_,Bu,L,h1,.inl ⟨_,_,_,_,rfl,rfl,.cons hb BI (.bot hf)⟩,hT⟩⟩
   |pop hs hv ha hb=>exact⟨_,_,_,hg,.inr ⟨σ,w₁',_,Bu,L,h1,.inr (.inl ⟨hs,_,_,_,_,_,_,ha,hb,hv,rfl,rfl⟩),hT⟩⟩
   |UT hf hs ha h BI=>exact⟨_,_,_,hg,.inr ⟨σ,w₁',_,Bu,L,h1,.inr (.inr ⟨_,_,_,_,_,_,_,hf,hs,ha,rfl,rfl,.bot h,BI⟩),hT⟩⟩
   |raise hs hx ha hb=>exact⟨_,_,_,hg,.inl ⟨σ,L.le,⟨_,_,_,_,ha,rfl,hx⟩,L.Fc.drawn,L.Fc.OO,L.tV,hT⟩⟩
 | @cons _ _ c c' L₀ aoq hF BI t=>
  cases e;cases e';rcases frame .whole (fun _=>Cut.Q0) hF (fun hs=>by cases hs) (fun x=>by cases x) (.inl fun x=>by cases x) with⟨hs|hs,_⟩|⟨AE,w₁,es,hg,σ,w₁',CZ,Bu,L,h1,hO,hT⟩
  ·cases hs
  ·cases hs
  ·have t':=t.mono L.le
   cases hO with
   |stay hf=>exact⟨_,_,_,hg,.inr ⟨σ,w₁',_,Bu,L,h1,.inl ⟨_,_,_,_,rfl,rfl,.cons hf BI t'⟩,hT⟩⟩
   |push hb hf hn=>exact⟨_,_,_,hg,.inr ⟨σ,w₁',_,Bu,L,h1,.inl ⟨_,_,_,_,rfl,rfl,.cons hb hn (.cons hf BI t')⟩,hT⟩⟩
   |UT hf hs ha h hn=>exact⟨_,_,_,hg,.inr ⟨σ,w₁',_,Bu,L,h1,.inr (.inr ⟨_,_,_,_,_,_,_,hf,hs,ha,rfl,rfl,.cons h BI t',hn⟩),hT⟩⟩
   |pop hs hv ha hb=>
    cases ha;cases hb;exact⟨_,_,_,hg,.inr ⟨σ,w₁',_,Bu,L,h1,.inl ⟨_,_,_,_,rfl,rfl,t'.top fun K hk=>hk.finish hv BI⟩,hT⟩⟩
   |raise hs hx ha hb=>
    cases ha;cases hb;exact⟨_,_,_,hg,.inr ⟨σ,w₁',_,Bu,L,h1,.inl ⟨_,_,_,_,rfl,rfl,t'.top fun K hk=>hk.raise hx⟩,hT⟩⟩
end
end Go.BK
