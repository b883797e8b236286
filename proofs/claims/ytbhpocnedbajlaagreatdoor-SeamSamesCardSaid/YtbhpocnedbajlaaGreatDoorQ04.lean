/- Part of a proof. -/
import Derived.Test.YtbhpocnedbajlaaGreatDoorQ03
import Derived.ProofKit
import Derived.WalkKit
import Derived.Lib.Hide
import Derived.Deep.AppendLies
set_option maxRecDepth 100000
set_option maxHeartbeats 6400000
noncomputable section
set_option linter.all false
def v! {p:Prop}(h:p:=by go_num):p:=h
open And renaming intro->ZY
open Array renaming getElem?_eq_some_iff->Za,getElem?_modify->Y7,getElem?_setIfInBounds_ne->Zk,getElem?_setIfInBounds_self_of_lt->ZV,getElem?_eq_none->YR,replicate->Yu,getElem?_eq_getElem->Zx,getElem?_append_left->zr,getElem?_append_right->Zan
open Go renaming Program->Zo,TypeId->Zs,World->Zb,FuncId->ZaQ,Value->Zf,callFunc->Zz,Operand->Zbv,execOp->Zby,resolve->Zbh,wpList_append_own->Yc,info_parts->zp,run_underlying->Y9,wp_loop_rounds->Zbd,rounds_succ->YG,storeCells->ZbX
open Go.Addr renaming add->Zcu
open Go.Builtin renaming zeroCells->Zt,nextslicecap->Yx,append_->Zao,lenOf->ZcX,firstCells->Zu
open Go.Exit renaming inBlock->ZdC
open Go.Instr renaming typeAssert->Zbt
open Go.Lib renaming hid->Zd
open Go.Obj renaming cells->Zbi
open Go.Oper renaming wp->ZbA
open Go.Program renaming underlying->ZbU,cellsOf->Zco
open Go.Proofs.Tryz renaming prog->Zc,underlying34->zW,f88->Za7
open Go.Question renaming appendCap->zJ
open Go.Result renaming andThen_ok->Zaw
open Go.RowKit renaming Below->YH,intOf->ZdE
open Go.RowKit.Below renaming refl->Zh,heap_setCell->Y4
open Go.Sem renaming run_bind->zg
open Go.Value renaming oneCell'->YT
open Go.World renaming ownsRow_nil->zq,block_lt_of_cell?->ZH,setCell->Z8,frozen?->Yo,cell?->zy
open List renaming map_toArray->Zcr,range'->Zcq,filter_append->ZcW,map_append->Zai,length_filter_le->Zac,length_cons->zb,getElem?_cons_succ->ZD,length_append->ZA,getElem?_append_right->Zbr,getElem?_append_left->zl,nil_append->zP,eq_nil_of_length_eq_zero->YM
open Nat renaming le_refl->Zj,lt_of_lt_of_le->Zl,le_trans->Zr,zero_le->Zp,add_assoc->ZbZ,le_of_eq->ZcS
open Option renaming getD_some->Zw
namespace Go.Proofs.Fit
open Go
def Lp:Zo:=oB Qg
def Jf:Lp.toTables=Tryz.prog.toTables:=rfl
@[simp] def oC (t:Zs):Lp.underlying t=Tryz.prog.underlying t:=by unfold ZbU;rw[Jf]
@[simp] def gK (t:Zs):Lp.info? t=Tryz.prog.info? t:=by rw[Jf]
@[simp] def afG (t:Zs):Lp.cellsOf t=Tryz.prog.cellsOf t:=by unfold Zco;rw[Jf]
@[simp] def afH (t:Zs):Lp.bytesOf t=Tryz.prog.bytesOf t:=by unfold Program.bytesOf;rw[Jf]
def oD:Lp.depth=Tryz.prog.depth:=by unfold Program.depth;rw[Jf]
def gL (Q:Zo)(t:Zs)(w:Zb):(underlying t).run Q w=match Q.underlying t with|some d=>.ok d w|none=>.halt (.stuck "no such type") w:=by
 show(match Q.underlying t with|some d=>pure d|none=>stuck "no such type" :Sem TypeDesc).run Q w=_;cases Q.underlying t<;>rfl
def aH (Q:Zo)(t:Zs)(w:Zb):(typeInfo t).run Q w=match Q.info? t with|some d=>.ok d w|none=>.halt (.stuck "no such type") w:=by
 show(match Q.info? t with|some d=>pure d|none=>stuck "no such type" :Sem TypeInfo).run Q w=_;cases Q.info? t<;>rfl
@[simp] def OW (t:Zs)(w:Zb):(underlying t).run Lp w=(underlying t).run Zc w:=by rw[gL,gL,oC]
@[simp] def PD (t:Zs)(w:Zb):(typeInfo t).run Lp w=(typeInfo t).run Zc w:=by rw[aH,aH,gK]
@[simp] def adb (t:Zs)(w:Zb):(sizeOf t).run Lp w=(sizeOf t).run Zc w:=by
 have h:∀Q,(sizeOf t).run Q w=((typeInfo t).run Q w).andThen λi w=>.ok i.size w:=λQ=>by
  unfold sizeOf;rw[zg];rfl
 rw[h,h,PD]
@[simp] def afI (t:Zs)(w:Zb):(isAgg t).run Lp w=(isAgg t).run Zc w:=by
 have h:∀Q,(isAgg t).run Q w=((underlying t).run Q w).andThen λd w=>.ok (match d with| .struct _| .array _ _=>true|_=>false) w:=λQ=>by
  unfold isAgg;rw[zg]
  congr 1
  funext d w
  cases d<;>rfl
 rw[h,h,OW]
@[simp] def tC (t:Zs)(w:Zb):(zeroValue t).run Lp w=(zeroValue t).run Zc w:=by
 have h:∀Q,(zeroValue t).run Q w=((typeInfo t).run Q w).andThen λi w=>match i.zero with|some v=>.ok v w|none=>.halt (.unsupported (.resourceLimit "a value of more than 2^22 cells")) w:=λQ=>by
  unfold zeroValue;rw[zg]
  congr 1
  funext i w
  cases i.zero<;>rfl
 rw[h,h,PD]
def Ao (Q:Zo)(f:ZaQ){fn:Func}(h:Q.funcs[f]?=some fn)(a:(fn.name== "runtime.NumGoroutine")=false)(d:fn.body.isSome=true)(args:Array Zf)(w:Zb):(Zz f args).run Q w=.ok (.enter f args) w:=by
 have b:fn.body.isNone=false:=by cases c:fn.body<;>simp_all
 show(match Q.funcs[f]? with
  |none=>stuck "call: no such function"
  |some fn=>if fn.name== "runtime.NumGoroutine" then pure .numGoroutine else if fn.body.isNone then _ else pure (.enter f args):Sem Next).run Q w=_
 rw[h];dsimp only;rw[a,b]
 rfl
def l! {k:Nat}{f:Func}(h:Tryz.prog.funcs[k]?=some f)(a:Wa k=true:=by exact rfl)(b:Xh k=false:=by exact rfl):Lp.funcs[k]?=some f:=(AP.same k a b).trans h
def c! {k:Nat}{f:Func}(h:Lp.funcs[k]?=some f)(a:(f.name=="runtime.NumGoroutine")=false:=by exact rfl)(b:f.body.isSome=true:=by exact rfl):∀(args:Array Zf)(w:Zb),(Zz k args).run Lp w=.ok (.enter k args) w:=Ao Lp k h a b
@[simp] def Lp.func26:=l! Tryz.func6
@[simp] def Lp.call26:=c! Lp.func26
@[simp] def Lp.func27:=l! Tryz.func7
@[simp] def Lp.func29:=l! Tryz.func34
@[simp] def Lp.call29:=c! Lp.func29
@[simp] def Lp.func30:=l! Tryz.func9
@[simp] def Lp.call30:=c! Lp.func30
@[simp] def Lp.func32:=l! Tryz.func11
@[simp] def Lp.call32:=c! Lp.func32
@[simp] def Lp.func33:=l! Tryz.func10
@[simp] def Lp.call33:=c! Lp.func33
@[simp] def Lp.func34:=l! Tryz.func29
@[simp] def Lp.call34:=c! Lp.func34
@[simp] def Lp.func37:=l! Tryz.func16
@[simp] def Lp.call37:=c! Lp.func37
@[simp] def Lp.func40:=l! Tryz.func37
@[simp] def Lp.call40:=c! Lp.func40
@[simp] def Lp.func41:=l! Tryz.func30
@[simp] def Lp.call41:=c! Lp.func41
@[simp] def Lp.func44:=l! Tryz.func33
@[simp] def Lp.call44:=c! Lp.func44
@[simp] def Lp.func45:=l! Tryz.func32
@[simp] def Lp.call45:=c! Lp.func45
@[simp] def Lp.func46:=l! Tryz.func18
@[simp] def Lp.call46:=c! Lp.func46
@[simp] def Lp.func54:=l! Tryz.func26
@[simp] def Lp.call54:=c! Lp.func54
@[simp] def Lp.func61:=l! Tryz.func36
@[simp] def Lp.call61:=c! Lp.func61
@[simp] def Lp.func62:=l! Tryz.func23
@[simp] def Lp.call62:=c! Lp.func62
@[simp] def Lp.func69:=l! Tryz.func14
@[simp] def Lp.call69:=c! Lp.func69
@[simp] def Lp.func84:=l! Tryz.func19
@[simp] def Lp.call84:=c! Lp.func84
@[simp] def Lp.func85:=l! Tryz.func24
@[simp] def Lp.call85:=c! Lp.func85
@[simp] def Lp.func86:=l! Tryz.func35
@[simp] def Lp.call86:=c! Lp.func86
@[simp] def Lp.func87:=l! Tryz.func75
@[simp] def Lp.call87:=c! Lp.func87
@[simp] def Lp.func88:=l! Tryz.func48
@[simp] def Lp.call88:=c! Lp.func88
@[simp] def Lp.func89:=l! Tryz.func63
@[simp] def Lp.call89:=c! Lp.func89
@[simp] def Lp.func90:=l! Tryz.func64
@[simp] def Lp.call90:=c! Lp.func90
@[simp] def Lp.func92:=l! Tryz.func57
@[simp] def Lp.call92:=c! Lp.func92
@[simp] def Lp.func98:=l! Tryz.func71
@[simp] def Lp.call98:=c! Lp.func98
@[simp] def Lp.func99:=l! Tryz.func73
@[simp] def Lp.call99:=c! Lp.func99
@[simp] def Lp.func100:=l! Tryz.func66
@[simp] def Lp.call100:=c! Lp.func100
@[simp] def Lp.func101:=l! Tryz.func51
@[simp] def Lp.call101:=c! Lp.func101
@[simp] def Lp.func102:=l! Tryz.func67
@[simp] def Lp.call102:=c! Lp.func102
@[simp] def Lp.func103:=l! Tryz.func39
@[simp] def Lp.call103:=c! Lp.func103
@[simp] def Lp.func105:=l! Tryz.func68
@[simp] def Lp.call105:=c! Lp.func105
@[simp] def Lp.func106:=l! Tryz.func69
@[simp] def Lp.call106:=c! Lp.func106
@[simp] def Lp.func110:=l! Tryz.func72
@[simp] def Lp.call110:=c! Lp.func110
@[simp] def Lp.func111:=l! Tryz.func74
@[simp] def Lp.call111:=c! Lp.func111
@[simp] def Lp.func112:=l! Tryz.func38
@[simp] def Lp.call112:=c! Lp.func112
@[simp] def Lp.func113:=l! Tryz.func40
@[simp] def Lp.call113:=c! Lp.func113
@[simp] def Lp.func119:=l! Tryz.func53
@[simp] def Lp.call119:=c! Lp.func119
@[simp] def Lp.func120:=l! Tryz.func54
@[simp] def Lp.call120:=c! Lp.func120
@[simp] def Lp.func122:=l! Tryz.func55
@[simp] def Lp.call122:=c! Lp.func122
@[simp] def Lp.func123:=l! Tryz.func56
@[simp] def Lp.call123:=c! Lp.func123
@[simp] def Lp.func126:=l! Tryz.func52
@[simp] def Lp.call126:=c! Lp.func126
@[simp] def Lp.func134:=l! Tryz.func50
@[simp] def Lp.call134:=c! Lp.func134
@[simp] def Lp.func136:=l! Tryz.func58
@[simp] def Lp.call136:=c! Lp.func136
@[simp] def Lp.func139:=l! Tryz.func62
@[simp] def Lp.call139:=c! Lp.func139
@[simp] def Lp.func143:=l! Tryz.func80
@[simp] def Lp.call143:=c! Lp.func143
@[simp] def Lp.func144:=l! Tryz.func81
@[simp] def Lp.call144:=c! Lp.func144
@[simp] def Lp.func145:=l! Tryz.func82
@[simp] def Lp.call145:=c! Lp.func145
@[simp] def Lp.func150:=l! Tryz.func85
@[simp] def Lp.call150:=c! Lp.func150
@[simp] def Lp.func151:=l! Tryz.func83
@[simp] def Lp.call151:=c! Lp.func151
@[simp] def Lp.func152:=l! Tryz.func96
@[simp] def Lp.call152:=c! Lp.func152
@[simp] def Lp.func153:=l! Tryz.func76
@[simp] def Lp.func154:=l! Tryz.func77
@[simp] def Lp.call154:=c! Lp.func154
@[simp] def Lp.func159:=l! Tryz.func91
@[simp] def Lp.func161:=l! Tryz.func84
@[simp] def Lp.call161:=c! Lp.func161
@[simp] def Lp.func162:=l! Tryz.func86
@[simp] def Lp.call162:=c! Lp.func162
@[simp] def Lp.func166:=l! Tryz.func102
@[simp] def Lp.call166:=c! Lp.func166
@[simp] def Lp.func167:=l! Tryz.func103
@[simp] def Lp.call167:=c! Lp.func167
@[simp] def Lp.func168:=l! Tryz.func104
@[simp] def Lp.call168:=c! Lp.func168
@[simp] def Lp.func187:=l! Tryz.func123
@[simp] def Lp.call187:=c! Lp.func187
@[simp] def Lp.func91:Lp.funcs[65]?=some Qg:=NG (by rw[FT];decide)
@[simp] def Lp.call91 (args:Array Zf)(w:Zb):(Zz 65 args).run Lp w=.ok (.enter 65 args) w:=Ao Lp 65 Lp.func91 d! rfl args w
@[simp] def Lp.func104:Lp.funcs[60]?=some Kj:=L8 (by rw[FT];decide)
@[simp] def Lp.call104 (args:Array Zf)(w:Zb):(Zz 60 args).run Lp w=.ok (.enter 60 args) w:=Ao Lp 60 Lp.func104 d! rfl args w
@[simp] def Lp.func155:Lp.funcs[87]?=some MA:=TU (by rw[FT];decide)
@[simp] def Lp.call155 (args:Array Zf)(w:Zb):(Zz 87 args).run Lp w=.ok (.enter 87 args) w:=Ao Lp 87 Lp.func155 d! rfl args w
@[simp] def Lp.func156:Lp.funcs[88]?=some Mz:=L9 (by rw[FT];decide)
variable {t:Zs}
def Cz {d:TypeDesc}(h:Tryz.prog.underlying t=some d):Lp.underlying t=some d:=(oC t).trans h
def Dz {i:TypeInfo}(h:Tryz.prog.info? t=some i):Lp.info? t=some i:=(gK t).trans h
end Go.Proofs.Fit
namespace Go.Proofs.Fit
open Go Go.RowKit
def KY:(Tryz.prog.info? 3).map (λi=>(i.zero,i.size,i.bytes))=some (some (.int .i64 0),1,8):=k!
def Hw:(Tryz.prog.info? 22).map (λi=>(i.zero,i.size,i.bytes))=some (some (.slice none 0 0),1,24):=k!
def MB:Kj.ntmps=14:=rfl
def OX:Qg.ntmps=14:=rfl
def dG:MA.ntmps=13:=rfl
def MC:Mz.ntmps=40:=rfl
def Wd (a:Array Zf):Zf:=.iface 1 (.func (.func 88) #[] a)
def MD (b:Nat):Zf:=.slice b 1 1
section
variable {P:Zo}
variable {w w' W w₁ wl:Zb}
variable {ops:Array Oper}
variable {rest:List Oper}
variable {o:Oper}
variable {a:Act}
variable {Q:Exit->Act->Zb->Prop}
def NH (b:o.guard=none)(s x:Zbv)(t:Zs)
 (p:o.op=.call {callee:=.builtin .append,args:= #[s,x],argTypes:= #[t,t]})
 (e:Zs) (i:TypeInfo) (z:Zf) (ht:P.underlying t=some (.slice e)) (hi:P.info? e=some i) (k:i.zero=some z)
 (m:a.eval s=.slice none 0 0) (g:Addr) (n c:Nat) (news:List Zf) (l:a.eval x=.slice (some g) n c) (hl:news.length=n*i.size) (u:∀j v,news[j]?=some v->w.cell? (g.add j)=some v)
 (r:0<n) (d:(n:Int)<=9223372036854775807) (f:n*i.bytes<=281474976710656)
 (h:wpList P ops Q rest (a.put o.dst (.slice w n (grownCap w n 0 e))) (w.drew.alloc (.cells (news.toArray++Zt z.cells (grownCap w n 0 e - n)) e))):wpList P ops Q (o::rest) a w:=by
 refine wpList_plain b λ_ q=>?_;have y:=run_append_nil (P:=P) w t o.type e i z ht hi k g n c news hl u r d f;unfold ZbA Zby;simp only[p,Zbh,invoke,builtin,zg,Sem.run_pure,Zaw,Zcr,List.map_cons,List.map_nil,m,l,y];exact q _ _ h
end
@[simp] def run_panic_iface (Q:Zo)(t:Zs)(v:Zf)(w:Zb):(Instr.panic (.iface t v)).run Q w=.halt (.panic (.iface t v)) w:=rfl
def t3b:¬281474976710656<Yx 1 0*Tryz.t3.bytes:=by decide+kernel
abbrev Qb6 (w W:Zb):Prop:=YH w w W
def Sf (g l s:Zf)(w:Zb)(b:(((zJ 1 0 3).cut (w.tape w.drawn (.appendCap 1 0 3)):Int)==1)=true):
  Calls Lp 60 #[g,l,s] w λe w'=>e=.panicked [{v:=Wd #[g,l,s,MD w.heap.size],recovered:=false}]/\Qb6 w w':=by
 have a:=t3b;go_enter Lp.func104,MB;go_wp2;refine⟨rfl,rfl,?_⟩;exact(((Zh _ _).alloc (Zj _) _).alloc i! _).drew
variable {w w' W w₁ wl:Zb}
variable {xs news TV UM:List Zf}
def G_ {base:Nat}{e:Zs}{size:Nat}{v:Zf}{n:Nat}(h:w.ownsRow base e size v n xs)(a:Qb6 w w'):w'.ownsRow base e size v n xs:=
 h.kept (row:=none) ⟨a.os,a.tape,a.output,a.size,λk b _=>a.block k b⟩ (by cases c:v.ownBlock<;>simp)
def aI {base:Nat}{row:Option Nat}(a:w.grownBy w' row)(d:base<=w.heap.size)(b:∀k,row=some k->base<=k):YH base w w':=
 ⟨a.os,a.tape,a.output,a.size,λk c=>a.block k o! λe=>by have:=b k e.symm;omega⟩
def oE (w:Zb)(news:List Zf)(e:Zs):∀j u,news[j]?=some u->(w.alloc (.cells news.toArray e)).cell? ((w:Addr).add j)=some u:=by
 intro j u b;have a:(w:Addr).add j=⟨w,j,none⟩:=by unfold Zcu;split<;>simp_all
 rw[a,World.cell?_alloc_at _ _ _ _ rfl];simpa using b
section
variable {P:Zo}
variable {ops:Array Oper}
variable {rest:List Oper}
variable {o:Oper}
variable {a:Act}
variable {Q:Exit->Act->Zb->Prop}
def GN (f:o.guard=none)(s x:Zbv)(t:Zs)
 (C:o.op=.call {callee:=.builtin .append,args:= #[s,x],argTypes:= #[t,t]})
 (base:Nat) (e:Zs) (i:TypeInfo) (z:Zf) (size b:Nat) (ht:P.underlying t=some (.slice e)) (hi:P.info? e=some i) (y:i.zero=some z)
 (m:i.size=size) (g:i.bytes=b) (d:z.cells.size=size) (I:0<size)
 (v:Zf) (n:Nat) (xs:List Zf) (B:a.eval s=v) (r:W.ownsRow base e size v n xs)
 (q:Addr) (news:List Zf) (c:Nat) (j:q=⟨W,0,none⟩) (A:a.eval x=.slice (some q) 1 c)
 (h:∀v' w',w'.ownsRow base e size v' (n+1) (xs++news)->YH base W w'->wpList P ops Q rest (a.put o.dst v') w')
 (hl:news.length=size) (G:∀u∈news,u.oneCell'=true) (l:n+1<=maxLen) (p:(n+1)*b<=140737488355328) (H:base<=W.heap.size):wpList P ops Q (o::rest) a (W.alloc (.cells news.toArray e)):=by
 subst j;refine Yc (w:=W.alloc (.cells news.toArray e)) f s x t C base e i z size b ht hi y m g d I v n xs B (r.alloc _) _ 1 c news A o! (oE W news e) G l p j! λv' w' F E _=>h v' w' F ?_;exact((Zh base W).alloc H _).trans (aI E j! λk D=>(r.lt k D).1)
end
def CF (a:Addr)(n:Nat):(a.add n).block=a.block:=by unfold Zcu;split<;>rfl
def ET (b:Nat)(w w₁:Zb):Prop:=∀p v,p.block<b->w.cell? p=some v->w₁.cell? p=some v
variable {b ln lc lo hi l p g s r c K m0 m1:Nat}
def ET.trans {x y z:Zb}(h:ET b x y)(k:ET b y z):ET b x z:=λp v a c=>k p v a (h p v a c)
def ET.below (h:Qb6 w w₁)(d:b<=w.heap.size):ET b w w₁:=λp v a c=>by
 rw[h.cell (Zl a d)];exact c
structure ME (b:Nat)(w:Zb)(gc:Array Zf)(la:Option Addr)(ln lc:Nat)(sv:Zf)(rows:Nat->Zf)(fit:Nat->Bool):Prop where
 small:ln<=1000000
 cap:ln<=lc/\lc<=maxLen
 gN:gc.size=8
 there:∀i,i<ln->∃ad,la=some ad/\ad.block<b/\w.cell? (ad.add i)=some (rows i)
 row:∀i,i<ln->∃a n c,rows i=.slice a n c/\(0<c\/a=none)
 oF:∃a n c,sv=.slice a n c
 fits:∀i,i<ln->∀w₁,ET b w w₁->Calls Lp 52 #[.agg gc,rows i,sv] w₁ λe w₂=>e=.returned (.bool (fit i))/\Qb6 w₁ w₂
variable {gc:Array Zf}
variable {la A0 A1:Option Addr}
variable {sv:Zf}
variable {fit:Nat->Bool}
def ME.Ar {rows:Nat->Zf}(h:ME b w gc la ln lc sv rows fit)(k:ET b w w₁):ME b w₁ gc la ln lc sv rows fit:=
 ⟨h.small,h.cap,h.gN,λi hi=>by
  obtain⟨g,f,c,e⟩:=h.there i hi;exact⟨g,f,c,k _ _ (by rw[CF];exact c) e⟩,h.row,h.oF,λi hi a d=>h.fits i hi a (k.trans d)⟩
def CX (rows:Nat->Zf)(fit:Nat->Bool)(lo hi:Nat):List Zf:=((Zcq lo (hi - lo)).filter fit).map rows
section
variable {rows:Nat->Zf}{fit:Nat->Bool}
def NJ (lo:Nat):CX rows fit lo lo=[]:=by simp[CX]
def Sg {k:Nat}(h:lo<=k):CX rows fit lo (k+1)=if fit k=true then CX rows fit lo k++ [rows k] else CX rows fit lo k:=by
 unfold CX;have e:k+1 - lo=(k - lo)+1:=o!
 rw[e,List.range'_concat,ZcW,Zai];have b:lo+1*(k - lo)=k:=o!
 rw[b];by_cases a:fit k=true<;>simp[a]
def Dh:(CX rows fit lo hi).length<=hi - lo:=by
 unfold CX;rw[List.length_map];refine Zr (Zac _ _) i!
def dH {a:Nat}(c:lo<=a)(b:a<=hi):CX rows fit lo a++CX rows fit a hi=CX rows fit lo hi:=by
 unfold CX;rw[<-Zai, <-ZcW]
 congr 2
 have e:hi - lo=(a - lo)+(hi - a):=o!
 rw[e, <-List.range'_append_1]
 congr 2
 omega
end
def Sh (base lo k:Nat)(rows:Nat->Zf)(fit:Nat->Bool)(v:Zf)(wr:Zb):Prop:=wr.ownsRow base 22 1 v (CX rows fit lo k).length (CX rows fit lo k)
def E7 {w1:Zb}(a:Qb6 W w1):(∀b o,b<W.heap.size->w1.cell? ⟨b,o,none⟩=W.cell? ⟨b,o,none⟩)/\(∀b o,b<W.heap.size->w1.frozen? ⟨b,o,none⟩=W.frozen? ⟨b,o,none⟩):=
 ⟨λb o h=>a.cell (p:=⟨b,o,none⟩) h,λb o h=>a.frozen (p:=⟨b,o,none⟩) h⟩
def alo {rows:Nat->Zf}(H:ME b w gc la ln lc sv rows fit)(I:b<=w.heap.size):
  Calls Lp 87 #[.agg gc,.slice la ln lc,sv] w λe w'=>∃v,e=.returned v/\Sh w 0 ln rows fit v w'/\Qb6 w w':=by
 obtain⟨E,hi,J,L,K⟩:=zp Hw;have N:=H.small;go_enter Lp.func155,dG;go_wp2
 go_loopw [3,5] (λv i wr=>∃k:Nat,k<=ln/\i=.int .i64 k/\Sh w 0 k rows fit v wr/\Qb6 w wr) (λ_ i _=>ln - (ZdE i).toNat)
 case atStart=>exact⟨0,Zp _,rfl,by unfold Sh;rw[NJ];exact zq _ _ _ _,Zh _ _⟩
 obtain⟨k,M,rfl,j,g⟩:=hrel;have z:=g.size;by_cases o:k<ln
 .obtain⟨t,rfl,O,u⟩:=H.there k o
  obtain⟨s,q,r,h,_⟩:=H.row k o;have d:=H.fits k o wr (ET.below g I);have F:wr.cell? (t.add k)=some (.slice s q r):=by rw[<-h,g.cell (p:=t.add k) (by rw[CF];omega)];exact u
  rw[h]at d;clear u;have x:=Zd (Sg (rows:=rows) (fit:=fit) (Zp k));have G:=Zd h;clear h;cases c:fit k with
  |true=>
   rw[c]at d;have n:=Zd c;clear c;have B:wr.ownsRow w 22 1 u3 (CX rows fit 0 k).length (CX rows fit 0 k):=j;clear j;go_wp2_with (first
    |(go_at_call 52;refine d.mono ?_;rintro e w1 ⟨rfl,f⟩)
    |(at_builtin;refine GN (P:=Lp) (W:=w1) rfl (.tmp 3) (.tmp 10) 34 rfl w 22 E () 1 24 (Cz zW) (Dz hi) J L K rfl d! u3 _ _ rfl (G_ B f) w1 [.slice s q r] 1 rfl rfl ?_ rfl ?c1 ?c2 ?c3 ?c4
      intro C w2 A y))
   case c1=>simp[YT]
   case c2=>have:=Dh (rows:=rows) (fit:=fit) (lo:=0) (hi:=k);simp only[maxLen];omega
   case c3=>have:=Dh (rows:=rows) (fit:=fit) (lo:=0) (hi:=k);omega
   case c4=>have:=f.size;omega
   have a:=x.out;rw[if_pos n.out,G.out]at a;have m:Sh w 0 (k+1) rows fit C w2:=by unfold Sh;rw[a];simpa using A
   have l:Qb6 w w2:=(g.trans (f.mono z)).trans y;clear A y a B d F;go_wp2
   go_roundw
   case rel=>exact⟨k+1,o!,v!,m,l⟩
   case measure=>simp[ZdE];omega
  |false=>
   rw[c]at d;have n:=Zd c;clear c;go_wp2_with (first|(go_at_call 52;refine d.mono ?_;rintro e w1 ⟨rfl,f⟩));have a:=x.out;rw[if_neg (by rw[n.out];simp)]at a;have m:Sh w 0 (k+1) rows fit u3 w1:=by unfold Sh;rw[a];exact G_ j f
   have l:Qb6 w w1:=g.trans (f.mono z)
   go_roundw
   case rel=>exact⟨k+1,o!,v!,m,l⟩
   simp[ZdE];omega
 have D:k=ln:=o!
 subst D;go_wp2;go_ret;exact⟨_,rfl,j,g⟩
variable {ops:Array Oper}
variable {rest:List Oper}
variable {o:Oper}
variable {a:Act}
variable {Q:Exit->Act->Zb->Prop}
def EU {P:Zo}(b:o.guard=none)(s x:Zbv)(t:Zs)
 (g:o.op=.call {callee:=.builtin .append,args:= #[s,x],argTypes:= #[t,t]})
 (e:Zs) (i:TypeInfo) (ht:P.underlying t=some (.slice e)) (hi:P.info? e=some i)
 (f:a.eval s=.slice none 0 0) (A:Option Addr) (c:Nat) (d:a.eval x=.slice A 0 c)
 (h:wpList P ops Q rest (a.put o.dst ()) w):wpList P ops Q (o::rest) a w:=by
 refine wpList_plain b λ_ j=>?_;have k:(Zao #[t,t] o.type #[(),.slice A 0 c]).run P w=.ok () w:=by
  cases A<;>simp[Zao,Y9 ht,sizeOf,typeInfo,hi,ZcX,Zu]
  rfl
 unfold ZbA Zby;simp only[g,Zbh,invoke,builtin,zg,Sem.run_pure,Zaw,Zcr,List.map_cons,List.map_nil,f,d,k];exact j _ _ h
def aag (w:Zb)(xs:List Zf)(e:Ending)(w':Zb):Prop:=
 ∃w₁,Qb6 w w₁/\(xs.length=0->e=.returned ()/\w'=w₁)/\
  (0<xs.length->e=.returned (.slice w₁ xs.length (grownCap w₁ xs.length 0 22))/\w'=w₁.drew.alloc (.cells (xs.toArray++Zt #[()] (grownCap w₁ xs.length 0 22 - xs.length)) 22))
def aJ {rows:Nat->Zf}(H:ME w w gc la ln lc sv rows fit)(R:(((zJ 1 0 3).cut (w.tape w.drawn (.appendCap 1 0 3)):Int)==1)=false):
  Calls Lp 60 #[.agg gc,.slice la ln lc,sv] w (aag w (CX rows fit 0 ln)):=by
 obtain⟨C,hi,I,K,J⟩:=zp Hw;have m:=t3b;have S:=H.small;have T:=Dh (rows:=rows) (fit:=fit) (lo:=0) (hi:=ln);have p:∀W,Qb6 w W->Calls Lp 87 #[.agg gc,.slice la ln lc,sv] W λe w'=>∃v,e=.returned v/\Sh W 0 ln rows fit v w'/\Qb6 W w':=λW b=>alo (H.Ar (ET.below b (Zj _))) b.size;have M:∀u∈CX rows fit 0 ln,u.oneCell'=true:=by
  intro u D;unfold CX at D;obtain⟨i,hi,rfl⟩:=List.mem_map.1 D;have:=(List.mem_filter.1 hi).1;rw[List.mem_range']at this;obtain⟨j,Q,rfl⟩:=this;obtain⟨a,n,c,e,_⟩:=H.row (0+1*j) o!;rw[e];rfl
 have B:∀W y,Qb6 w W->Qb6 W y->Qb6 w y:=λW y h k=>h.trans (k.mono h.size);generalize l:CX rows fit 0 ln=xs at*;have E:=Zd l;clear l;by_cases d:xs.length=0
 .have s:∀W,Qb6 w W->Calls Lp 87 #[.agg gc,.slice la ln lc,sv] W λe w'=>∃A c,e=.returned (.slice A 0 c)/\Qb6 w w':=λW b=>(p W b).mono λe w' ⟨v,o,r,m⟩=>by
   have f:w'.ownsRow W 22 1 v (CX rows fit 0 ln).length (CX rows fit 0 ln):=r;rw[E.out,d]at f;rcases f.2 with⟨rfl,_⟩|⟨g,x,t,rfl,_⟩
   .exact⟨_,_,o,B _ _ b m⟩
   exact⟨_,_,o,B _ _ b m⟩
  clear p;have O:=Zd d;clear d I K J;go_enter Lp.func104,MB;go_wp2_with (first
   |(go_at_call 87;refine(s _ (((Zh _ _).alloc (Zj _) _).alloc i! _).drew).mono ?_
     rintro e w1 ⟨A,c,rfl,z⟩)
   |(at_builtin;refine EU (P:=Lp) (w:=w1) rfl (.const ()) (.tmp 11) 34 rfl 22 C (Cz zW) (Dz hi) rfl A c rfl ?_))
  all_goals go_ret
  all_goals exact⟨w1,z,λ_=>⟨rfl,rfl⟩,λh=>absurd O.out o!⟩
 have N:∀W,Qb6 w W->Calls Lp 87 #[.agg gc,.slice la ln lc,sv] W λe w'=>∃q c,e=.returned (.slice (some q) xs.length c)/\Qb6 w w'/\∀j v,xs[j]?=some v->w'.cell? (q.add j)=some v:=λW b=>(p W b).mono λe w' ⟨v,o,r,m⟩=>by
  have f:w'.ownsRow W 22 1 v (CX rows fit 0 ln).length (CX rows fit 0 ln):=r;rw[E.out]at f;rcases f.2 with⟨_,L⟩|⟨g,x,t,rfl,_⟩
  .exact absurd L d
  exact⟨_,_,o,B _ _ b m,f.cells rfl⟩
 clear p;have G:=Zd (Nat.pos_of_ne_zero d);clear d;go_enter Lp.func104,MB;go_wp2_with (first
  |(go_at_call 87;refine(N _ (((Zh _ _).alloc (Zj _) _).alloc i! _).drew).mono ?_
    rintro e w1 ⟨q,c,rfl,z,F⟩)
  |(at_builtin;refine NH (P:=Lp) (w:=w1) rfl (.const ()) (.tmp 11) 34 rfl 22 C () (Cz zW) (Dz hi) I rfl q xs.length c xs rfl (by rw[K];simp) F G.out o! (by rw[J];omega) ?_
    clear F))
 all_goals go_ret
 all_goals exact⟨w1,z,λh=>absurd G.out o!,λ_=>⟨rfl,rfl⟩⟩
def afL (t:Array Zf)(h:t.size=8):∃i g f e d c b a,t= #[i,g,f,e,d,c,b,a]:=by
 obtain⟨l⟩:=t
 match l,h with
 | [i,g,f,e,d,c,b,a],_=>exact⟨i,g,f,e,d,c,b,a,rfl⟩
def dI (a:Addr)(i j:Nat):(a.add i).add j=a.add (i+j):=by
 unfold Zcu;by_cases hi:i=0<;>by_cases b:j=0<;>simp[hi,b,ZbZ]
def tD (wl:Zb)(p lo hi:Nat)(rows:Nat->Zf)(fit:Nat->Bool)(e:Ending)(w':Zb):Prop:=
 ∃v,e=.returned (.tuple #[v,.pointer p])/\Sh wl lo hi rows fit v w'/\Qb6 wl w'
variable {ad:Addr}
variable {fz:Nat×Nat}
def aah {rows:Nat->Zf}(H:ME b wl gc (some ad) ln lc sv rows fit)(GK:b<=wl.heap.size)
 (hl:wl.cell? l=some (.slice (some ad) ln lc)) (hp:wl.cell? p=some (.int .i64 0)) (x:wl.heap[g]?=some (.cells gc 84 fz)) (w:wl.cell? s=some sv):
  Calls Lp 88 (E6 l p g s) wl (tD wl p 0 (ln / 2) rows fit):=by
 obtain⟨U,hi,Fl,DR,EB⟩:=zp Hw;have Qh:=H.small;obtain⟨D,r,q,o,n,C,B,A,rfl⟩:=afL gc H.gN;obtain⟨T,R,S,rfl⟩:=H.oF;have yM:=H.cap;have IX:maxLen=9223372036854775807:=rfl;have c:∀i v,(#[D,r,q,o,n,C,B,A]:Array Zf)[i]?=some v->wl.cell? ⟨g,i,none⟩=some v:=λi v V=>by rw[cell_of_row wl g i _ 84 fz x];exact V
 have d:g<wl:=(Za.1 x).1;have NK:s<wl:=ZH wl _ w;have q1:(ln:Int) / 2<=(lc:Int):=o!
 have HH:=Zd H;clear x;unfold E6 ptr;go_enter Lp.func156,MC;simp only[Jd,Gb,Za7,Zw,lef,rN];go_wp2;clear hl hp
 go_loopw [6,23] (λv i wr=>∃k:Nat,k<=ln / 2/\i=.int .i64 k/\Sh wl 0 k rows fit v wr/\Qb6 wl wr) (λ_ i _=>ln / 2 - (ZdE i).toNat)
 case atStart=>exact⟨0,Zp _,rfl,by unfold Sh;rw[NJ];exact zq _ _ _ _,Zh _ _⟩
 obtain⟨k,hk,rfl,u,a⟩:=hrel;have M:=a.size;by_cases Az:k<ln / 2
 .obtain⟨ac,e,DU,J⟩:=H.there k o!
  cases e;obtain⟨I,F,G,t,_⟩:=H.row k o!;have j:=H.fits k o! wr (ET.below a GK);have X:wr.cell? (ad.add k)=some (.slice I F G):=by rw[<-t,a.cell (p:=ad.add k) (by rw[CF];omega)];exact J
  rw[t]at j;clear J;have K:=Zd (Sg (rows:=rows) (fit:=fit) (Zp k));have HR:=Zd t;clear t;have g0:wr.cell? g=some D:=by rw[a.cell (p:=g) d];exact c 0 D rfl
  have g1:wr.cell? ⟨g,1,none⟩=some r:=by rw[a.cell (p:=⟨g,1,none⟩) d];exact c 1 r rfl
  have g2:wr.cell? ⟨g,2,none⟩=some q:=by rw[a.cell (p:=⟨g,2,none⟩) d];exact c 2 q rfl
  have g3:wr.cell? ⟨g,3,none⟩=some o:=by rw[a.cell (p:=⟨g,3,none⟩) d];exact c 3 o rfl
  have g4:wr.cell? ⟨g,4,none⟩=some n:=by rw[a.cell (p:=⟨g,4,none⟩) d];exact c 4 n rfl
  have g5:wr.cell? ⟨g,5,none⟩=some C:=by rw[a.cell (p:=⟨g,5,none⟩) d];exact c 5 C rfl
  have Z:wr.cell? ⟨g,6,none⟩=some B:=by rw[a.cell (p:=⟨g,6,none⟩) d];exact c 6 B rfl
  have Y:wr.cell? ⟨g,7,none⟩=some A:=by rw[a.cell (p:=⟨g,7,none⟩) d];exact c 7 A rfl
  have DX:wr.cell? s=some (.slice T R S):=by rw[a.cell (p:=s) NK];exact w
  have ai:=Zd c;clear c w H;cases h:fit k with
  |true=>
   rw[h]at j;have E:=Zd h;clear h;have O:wr.ownsRow wl 22 1 u6 (CX rows fit 0 k).length (CX rows fit 0 k):=u;clear u;go_wp2_with (first
    |(go_at_call 52;refine j.mono ?_;rintro e w1 ⟨rfl,m⟩)
    |(at_builtin;refine GN (P:=Lp) (W:=w1) rfl (.tmp 31) (.tmp 33) 34 rfl wl 22 U () 1 24 (Cz zW) (Dz hi) Fl DR EB rfl d! u6 _ _ rfl (G_ O m) w1 [.slice I F G] 1 rfl rfl ?_ rfl ?c1 ?c2 ?c3 ?c4
      intro Q w2 N L))
   case c1=>simp[YT]
   case c2=>have:=Dh (rows:=rows) (fit:=fit) (lo:=0) (hi:=k);omega
   case c3=>have:=Dh (rows:=rows) (fit:=fit) (lo:=0) (hi:=k);omega
   case c4=>have:=m.size;omega
   have f:=K.out;rw[if_pos E.out,HR.out]at f;have z:Sh wl 0 (k+1) rows fit Q w2:=by unfold Sh;rw[f];simpa using N
   have y:Qb6 wl w2:=(a.trans (m.mono M)).trans L;clear N L f O j X g0 g1 g2 g3 g4 g5 Z Y DX;go_wp2
   go_roundw
   case rel=>exact⟨k+1,o!,v!,z,y⟩
   case measure=>simp[ZdE];omega
  |false=>
   rw[h]at j;have E:=Zd h;clear h;go_wp2_with (first|(go_at_call 52;refine j.mono ?_;rintro e w1 ⟨rfl,m⟩));have f:=K.out;rw[if_neg (by rw[E.out];simp)]at f;have z:Sh wl 0 (k+1) rows fit u6 w1:=by unfold Sh;rw[f];exact G_ u m
   have y:Qb6 wl w1:=a.trans (m.mono M)
   go_roundw
   case rel=>exact⟨k+1,o!,v!,z,y⟩
   simp[ZdE];omega
 obtain rfl:k=ln / 2:=o!
 clear H c;go_wp2
 (try simp only[ZdC,Exit.then])
 refine bodyPost_end (results_tmp2 rfl _ _ _) rfl ?_;exact⟨_,rfl,u,a⟩
def aai {rows:Nat->Zf}(H:ME b wl gc (some ad) ln lc sv rows fit)(GK:b<=wl.heap.size)
 (hl:wl.cell? l=some (.slice (some ad) ln lc)) (hp:wl.cell? p=some (.int .i64 1)) (UO:0<ln) (x:wl.heap[g]?=some (.cells gc 84 fz)) (w:wl.cell? s=some sv):
  Calls Lp 88 (E6 l p g s) wl (tD wl p (ln / 2) ln rows fit):=by
 obtain⟨U,hi,Fl,DR,EB⟩:=zp Hw;have Qh:=H.small;obtain⟨D,r,q,o,n,C,B,A,rfl⟩:=afL gc H.gN;obtain⟨T,R,S,rfl⟩:=H.oF;have yM:=H.cap;have IX:maxLen=9223372036854775807:=rfl;have c:∀i v,(#[D,r,q,o,n,C,B,A]:Array Zf)[i]?=some v->wl.cell? ⟨g,i,none⟩=some v:=λi v V=>by rw[cell_of_row wl g i _ 84 fz x];exact V
 have f:g<wl:=(Za.1 x).1;have NK:s<wl:=ZH wl _ w;have q1:(ln:Int) / 2<=(lc:Int):=o!
 have q2:¬lc=ln / 2:=o!
 have q3:(ln:Int) / 2<=(ln:Int):=o!
 have q4:(ln:Int)<=(lc:Int):=o!
 have HH:=Zd H;clear x;unfold E6 ptr;go_enter Lp.func156,MC;simp only[Jd,Gb,Za7,Zw,lef,rN];go_wp2;clear hl hp
 go_loopw [6,23] (λv i wr=>∃k:Nat,k<=ln - ln / 2/\i=.int .i64 k/\Sh wl (ln / 2) (ln / 2+k) rows fit v wr/\Qb6 wl wr) (λ_ i _=>ln - ln / 2 - (ZdE i).toNat)
 case atStart=>exact⟨0,Zp _,rfl,by unfold Sh;rw[Nat.add_zero,NJ];exact zq _ _ _ _,Zh _ _⟩
 obtain⟨k,hk,rfl,t,a⟩:=hrel;have M:=a.size;by_cases Az:k<ln - ln / 2
 .obtain⟨ac,e,DU,J⟩:=H.there (ln / 2+k) o!
  cases e;obtain⟨I,F,G,u,_⟩:=H.row (ln / 2+k) o!;have j:=H.fits (ln / 2+k) o! wr (ET.below a GK);have X:wr.cell? ((ad.add (ln / 2)).add k)=some (.slice I F G):=by rw[dI, <-u,a.cell (p:=ad.add (ln / 2+k)) (by rw[CF];omega)];exact J
  rw[u]at j;clear J;have K:=Zd (Sg (rows:=rows) (fit:=fit) (show ln / 2<=ln / 2+k by omega));have HR:=Zd u;clear u;have g0:wr.cell? g=some D:=by rw[a.cell (p:=g) f];exact c 0 D rfl
  have g1:wr.cell? ⟨g,1,none⟩=some r:=by rw[a.cell (p:=⟨g,1,none⟩) f];exact c 1 r rfl
  have g2:wr.cell? ⟨g,2,none⟩=some q:=by rw[a.cell (p:=⟨g,2,none⟩) f];exact c 2 q rfl
  have g3:wr.cell? ⟨g,3,none⟩=some o:=by rw[a.cell (p:=⟨g,3,none⟩) f];exact c 3 o rfl
  have g4:wr.cell? ⟨g,4,none⟩=some n:=by rw[a.cell (p:=⟨g,4,none⟩) f];exact c 4 n rfl
  have g5:wr.cell? ⟨g,5,none⟩=some C:=by rw[a.cell (p:=⟨g,5,none⟩) f];exact c 5 C rfl
  have Z:wr.cell? ⟨g,6,none⟩=some B:=by rw[a.cell (p:=⟨g,6,none⟩) f];exact c 6 B rfl
  have Y:wr.cell? ⟨g,7,none⟩=some A:=by rw[a.cell (p:=⟨g,7,none⟩) f];exact c 7 A rfl
  have DX:wr.cell? s=some (.slice T R S):=by rw[a.cell (p:=s) NK];exact w
  have ai:=Zd c;clear c w H;cases h:fit (ln / 2+k) with
  |true=>
   rw[h]at j;have E:=Zd h;clear h;have O:wr.ownsRow wl 22 1 u6 (CX rows fit (ln / 2) (ln / 2+k)).length (CX rows fit (ln / 2) (ln / 2+k)):=t;clear t;go_wp2_with (first
    |(go_at_call 52;refine j.mono ?_;rintro e w1 ⟨rfl,m⟩)
    |(at_builtin;refine GN (P:=Lp) (W:=w1) rfl (.tmp 31) (.tmp 33) 34 rfl wl 22 U () 1 24 (Cz zW) (Dz hi) Fl DR EB rfl d! u6 _ _ rfl (G_ O m) w1 [.slice I F G] 1 rfl rfl ?_ rfl ?c1 ?c2 ?c3 ?c4
      intro Q w2 N L))
   case c1=>simp[YT]
   case c2=>have:=Dh (rows:=rows) (fit:=fit) (lo:=ln / 2) (hi:=ln / 2+k);omega
   case c3=>have:=Dh (rows:=rows) (fit:=fit) (lo:=ln / 2) (hi:=ln / 2+k);omega
   case c4=>have:=m.size;omega
   have d:=K.out;rw[ZbZ]at d;rw[if_pos E.out,HR.out]at d;have z:Sh wl (ln / 2) (ln / 2+(k+1)) rows fit Q w2:=by unfold Sh;rw[d];simpa using N
   have y:Qb6 wl w2:=(a.trans (m.mono M)).trans L;clear N L d O j X g0 g1 g2 g3 g4 g5 Z Y DX;go_wp2
   go_roundw
   case rel=>exact⟨k+1,o!,v!,z,y⟩
   case measure=>simp[ZdE];omega
  |false=>
   rw[h]at j;have E:=Zd h;clear h;go_wp2_with (first|(go_at_call 52;refine j.mono ?_;rintro e w1 ⟨rfl,m⟩));have d:=K.out;rw[ZbZ]at d;rw[if_neg (by rw[E.out];simp)]at d;have z:Sh wl (ln / 2) (ln / 2+(k+1)) rows fit u6 w1:=by unfold Sh;rw[d];exact G_ t m
   have y:Qb6 wl w1:=a.trans (m.mono M)
   go_roundw
   case rel=>exact⟨k+1,o!,v!,z,y⟩
   simp[ZdE];omega
 obtain rfl:k=ln - ln / 2:=o!
 have e:ln / 2+(ln - ln / 2)=ln:=o!
 rw[e]at t;clear e;clear H c;go_wp2
 (try simp only[ZdC,Exit.then])
 refine bodyPost_end (results_tmp2 rfl _ _ _) rfl ?_;exact⟨_,rfl,t,a⟩
def aaj {rows:Nat->Zf}{k:Int}(a:k=0\/k=1)
 (hl:wl.cell? l=some (.slice la 0 lc)) (hp:wl.cell? p=some (.int .i64 k)):
  Calls Lp 88 (E6 l p g s) wl (tD wl p 0 0 rows fit):=by
 have b:maxLen=9223372036854775807:=rfl;unfold E6 ptr;rcases a with rfl|rfl<;>cases la
 all_goals
  go_enter Lp.func156,MC;simp only[Jd,Gb,Za7,Zw,lef,rN];go_wp2;refine Zbd 1 ?_;rw[YG];go_wp2
  (try simp only[ZdC,Exit.then])
  refine bodyPost_end (results_tmp2 rfl _ _ _) rfl ?_;exact⟨_,rfl,by unfold Sh;rw[NJ];exact zq _ _ _ _,Zh _ _⟩
def alq {rows:Nat->Zf}(H:ME b wl gc la ln lc sv rows fit)(f:b<=wl.heap.size)(k:Nat)(j:k<2)
 (hl:wl.cell? l=some (.slice la ln lc)) (hp:wl.cell? p=some (.int .i64 k)) (e:wl.heap[g]?=some (.cells gc 84 fz)) (d:wl.cell? s=some sv):
  Calls Lp 88 (E6 l p g s) wl (tD wl p (k*ln / 2) ((k+1)*ln / 2) rows fit):=by
 by_cases h:ln=0
 .subst h
  have c:k*0 / 2=0:=o!
  have a:(k+1)*0 / 2=0:=o!
  rw[c,a];exact aaj (k:=k) o! hl hp
 obtain⟨ad,rfl,_⟩:=H.there 0 o!;have i:k=0\/k=1:=o!
 rcases i with rfl|rfl
 .have c:0*ln / 2=0:=by omega
  have a:(0+1)*ln / 2=ln / 2:=o!
  rw[c,a];exact aah H f hl hp e d
 have c:1*ln / 2=ln / 2:=o!
 have a:(1+1)*ln / 2=ln:=o!
 rw[c,a];exact aai H f hl hp o! e d
def L_ (b:Nat):∀(c:List Zf) (o:Nat) (w:Zb) (a:Array Zf) (e:Zs) (f:Nat×Nat),w.heap[b]?=some (.cells a e f)->
  ∃d:Array Zf,(w.setCells b o c).heap[b]?=some (.cells d e f)/\d.size=a.size/\(∀i,d[i]?=if o<=i/\i<o+c.length/\i<a.size then c[i - o]? else a[i]?)/\
   (∀k,k≠b->(w.setCells b o c).heap[k]?=w.heap[k]?)/\(w.setCells b o c).heap.size=w.heap.size/\(w.setCells b o c).os=w.os/\(w.setCells b o c).tape=w.tape/\(w.setCells b o c).output=w.output
 | [],o,w,a,e,f,h=>⟨a,h,rfl,λi=>by rw[if_neg j!],λ_ _=>rfl,rfl,rfl,rfl,rfl⟩
 |v::r,o,w,a,e,f,h=>by
  have l:(w.setCell ⟨b,o,none⟩ v).heap[b]?=some (.cells (a.setIfInBounds o v) e f):=by
   simp[Z8,Y7,h]
  obtain⟨d,x,u,t,s,q,p,n,m⟩:=L_ b r (o+1) _ _ e f l;refine⟨d,x,by rw[u];simp,λi=>?_,λk j=>(s k j).trans (Y4 w _ v k j),by show((w.setCell ⟨b,o,none⟩ v).setCells b (o+1) r).heap.size=_;rw[q];simp[Z8],p,n,m⟩;rw[t i];simp only[Array.size_setIfInBounds,zb];by_cases hi:i<a.size
  .rcases Nat.lt_trichotomy i o with g|g|g
   .rw[if_neg o!,if_neg o!,Zk o!]
   .subst g
    rw[if_neg o!,if_pos o!,ZV hi];simp
   by_cases y:i<o+1+r.length
   .rw[if_pos o!,if_pos o!]
    have:i - o=(i - (o+1))+1:=o!
    rw[this,ZD]
   rw[if_neg o!,if_neg o!,Zk o!]
  rw[if_neg o!,if_neg o!];rw[YR j!,YR o!]
abbrev TW:Zf:=.slice none 0 0
def Room (w:Zb)(r c:Nat)(xs:List Zf):Prop:=xs.length<=c/\w.heap[r]?=some (.cells (xs.toArray++Yu (c - xs.length) TW) 22 (0,0))
def IM (n:Nat):Zt #[TW] n=Yu n TW:=by
 unfold Zt;apply Array.ext
 .simp
 intro i b a;simp[Nat.mod_one]
def Room.cell (h:Room w r c xs)(i:Nat):w.cell? ⟨r,i,none⟩=(xs.toArray++Yu (c - xs.length) TW)[i]? :=cell_of_row w r i _ 22 (0,0) h.2
section
variable {P:Zo}
def Room.put (h:Room w r c xs)(f:xs.length+news.length<=c):Room (w.setCells r xs.length news) r c (xs++news)/\(∀k,k≠r->(w.setCells r xs.length news).heap[k]?=w.heap[k]?)/\(w.setCells r xs.length news).heap.size=w.heap.size/\(w.setCells r xs.length news).os=w.os/\(w.setCells r xs.length news).tape=w.tape/\(w.setCells r xs.length news).output=w.output:=by
 obtain⟨o,n,e,m,l⟩:=L_ r news xs.length w _ _ _ h.2;refine⟨⟨by rw[ZA];exact f,?_⟩,l⟩;rw[n]
 congr 2
 have a:(xs.toArray++Yu (c - xs.length) TW).size=c:=j!
 apply Array.ext
 .rw[e,a];simp;omega
 intro i b j;have:=m i;rw[a]at this;have hi:i<c:=by rw[e,a]at b;exact b
 rw[<-Option.some_inj, <-Zx b, <-Zx j,this];by_cases d:xs.length<=i
 .by_cases g:i<xs.length+news.length
  .rw[if_pos ⟨d,g,hi⟩,zr j!]
   simp[Zbr d]
  rw[if_neg o!,Zan j!,Zan j!];simp only[Array.getElem?_replicate];rw[if_pos j!,if_pos j!]
 rw[if_neg o!,zr j!,zr j!];simp[zl (show i<xs.length by omega)]
def OY (hi:∃i,P.info? 22=some i/\i.size=1)(ht:P.underlying 34=some (.slice 22))(ty:Zs)(h:Room w r c xs)(A:Option Addr)(m d:Nat)(hl:news.length=m)(b:xs.length+m<=c)
 (f:∀j u,news[j]?=some u->∃ad,A=some ad/\w.cell? (ad.add j)=some u) (o:∀u∈news,u.oneCell'=true):
  (Zao #[34,34] ty #[.slice r xs.length c,.slice A m d]).run P w=.ok (.slice r (xs.length+m) c) (w.setCells r xs.length news):=by
 obtain⟨i,hi,a⟩:=hi;subst hl;cases A with
 |none=>
  have:news=[]:=by
   cases news with
   |nil=>rfl
   |cons x l=>obtain⟨ad,h,_⟩:=f 0 x rfl;cases h
  subst this;simp[Zao,Y9 ht,sizeOf,typeInfo,hi,ZcX,Zu,h.1,ZbX,World.setCells]
 |some ad=>
  have k:=run_append_room_cells (P:=P) w 34 ty 22 i ht hi r 0 xs.length c ad news.length d news (by rw[a];omega) (λj u g=>by
   obtain⟨p,e,b⟩:=f j u g;cases e;exact b) o b (λj n=>by
    rw[a,h.cell,Zx j!]
    rfl) (λj n=>by
    unfold Yo;rw[h.2];simp)
  rw[k,a];simp
end
def afM:Tryz.t22.bytes=24:=by decide+kernel
def alr (n:Nat)(w:Zb)(b:0<n)(d:n<=1000000):
  Calls Lp 123 #[(),.int .i64 n] w λe w'=>∃c,e=.returned (.slice w 0 c)/\n<=c/\c<=maxLen/\Room w' w c []/\Qb6 w w':=by
 have l:¬281474976710656<Yx n 0*Tryz.t22.bytes:=by rw[afM,nextslicecap_zero b];omega
 have k:¬281474976710656<(n:Int)*(Tryz.t22.bytes:Int):=by rw[afM];omega
 have j:¬n=0:=o!
 have h:decide ((0:Int)<(n:Int))=true:=by simpa using b
 go_enter Lp.func187,Tryz.ntmps123;go_wp2;go_ret;refine⟨_,rfl,?_,?_,?_,?_⟩
 .exact grownCap_ge w n 0 22
 .exact grownCap_le_maxLen w n 0 22 (by simp only[maxLen];omega)
 .refine⟨Zp _,?_⟩
  have a:=grownCap_ge w n 0 22;have e:((w.alloc (Zbi (Zt #[TW] n++Zt #[TW] ((zJ n 0 22).cut (w.tape w.drawn (zJ n 0 22)) - n)) 22)).drew).heap[w.heap.size]?=some (.cells (Zt #[TW] n++Zt #[TW] (grownCap w n 0 22 - n)) 22 (0,0)):=heap_alloc_new w _;rw[e,IM,IM]
  congr 2
  apply Array.ext
  .simp[grownCap]at a⊢;omega
  intro i g f;simp
 exact((Zh _ _).alloc (Zj _) _).drew
section
variable {P:Zo}
def GX (b:o.guard=none)(s x:Zbv)
 (z:o.op=.call {callee:=.builtin .append,args:= #[s,x],argTypes:= #[34,34]}) (hi:∃i,P.info? 22=some i/\i.size=1) (ht:P.underlying 34=some (.slice 22))
 (r c n:Nat) (xs:List Zf) (h:Room w r c xs) (C:n=xs.length) (y:a.eval s=.slice r n c) (A:Option Addr) (m e:Nat) (news:List Zf) (v:a.eval x=.slice A m e)
 (E:∀w',Room w' r c (xs++news)->(∀B,B<=r->YH B w w')->wpList P ops Q rest (a.put o.dst (.slice r (n+m) c)) w')
 (hl:news.length=m) (D:n+m<=c) (G:∀j u,news[j]?=some u->∃ad,A=some ad/\w.cell? (ad.add j)=some u) (F:∀u∈news,u.oneCell'=true):wpList P ops Q (o::rest) a w:=by
 subst C;refine wpList_plain b λ_ d=>?_;have H:=OY (P:=P) hi ht o.type h A m e hl D G F;obtain⟨t,q,p,l,g,f⟩:=h.put (news:=news) o!;unfold ZbA Zby;simp only[z,Zbh,invoke,builtin,zg,Sem.run_pure,Zaw,Zcr,List.map_cons,List.map_nil,y,v,H];exact d _ _ (E _ t λB J=>⟨l,g,f,ZcS p.symm,λk I=>q k o!⟩)
end
def aak (wl:Zb)(xs:List Zf)(e:Ending)(w':Zb):Prop:=
 Qb6 wl w'/\(xs.length=0->e=.returned ())/\(0<xs.length->∃r c,e=.returned (.slice (some ⟨r,0,none⟩) xs.length c)/\wl.heap.size<=r/\c<=maxLen/\Room w' r c xs)
def KZ (w:Zb)(A:Option Addr)(xs:List Zf):Prop:=∀j u,xs[j]?=some u->∃ad,A=some ad/\ad.block<w.heap.size/\w.cell? (ad.add j)=some u
def KZ.below {A:Option Addr}(h:KZ w A xs)(b:Qb6 w w'):∀j u,xs[j]?=some u->∃ad,A=some ad/\w'.cell? (ad.add j)=some u:=λj u a=>by
 obtain⟨ad,e,d,c⟩:=h j u a;exact⟨ad,e,by rw[b.cell (p:=ad.add j) (by rw[CF];exact d)];exact c⟩
def aal (d:wl.cell? K=some (.slice A0 TV.length m0))(r:wl.cell? ⟨K,1,none⟩=some (.slice A1 UM.length m1))(v:KZ wl A0 TV)(x:KZ wl A1 UM)
 (q:∀u∈TV,u.oneCell'=true) (o:∀u∈UM,u.oneCell'=true) (E:TV.length+UM.length<=1000000) (hp:0<TV.length+UM.length):
  Calls Lp 91 #[.slice K 2 2] wl (aak wl (TV++UM)):=by
 have hi:∃i,Lp.info? 22=some i/\i.size=1:=by
  obtain⟨D,hi,_,h,_⟩:=zp Hw;exact⟨D,Dz hi,h⟩
 have F:∀W,Calls Lp 123 #[(),.int .i64 ((TV.length:Int)+(UM.length:Int))] W λe w'=>∃c,e=.returned (.slice W 0 c)/\TV.length+UM.length<=c/\c<=maxLen/\Room w' W c []/\Qb6 W w':=λW=>by
  have:=alr (TV.length+UM.length) W hp E;rwa[Int.natCast_add]at this
 have y:=Zd (ZY v x);have z:=Zd (ZY q o);clear v x q o;have a:K<wl:=ZH wl _ d;go_enter Lp.func159,Tryz.ntmps91;go_wp2;refine Zbd 3 ?_;rw[YG];go_wp2;rw[YG];go_wp2;rw[YG];go_wp2_with (go_at_call 123;refine(F _).mono ?_;rintro e w1 ⟨c,rfl,I,H,n,b⟩);have C:w1.cell? K=some (.slice A0 TV.length m0):=by rw[b.cell (p:=K) a];exact d
 have k1:w1.cell? ⟨K,1,none⟩=some (.slice A1 UM.length m1):=by rw[b.cell (p:=⟨K,1,none⟩) a];exact r
 have l:=Zd n;clear n d r;refine Zbd 3 ?_;rw[YG];go_wp2_with (at_builtin;refine GX (P:=Lp) (w:=w1) rfl (.tmp 31) (.tmp 32) rfl hi (Cz zW) wl c 0 [] l.out rfl rfl A0 TV.length m0 TV rfl ?_ rfl o! ?d1 z.out.1;intro w2 g A)
 case d1=>exact y.out.1.below b
 have f:=A wl (Zj _);have s:Qb6 wl w2:=b.trans f;have B:w2.cell? ⟨K,1,none⟩=some (.slice A1 UM.length m1):=by rw[f.cell (p:=⟨K,1,none⟩) a];exact k1
 simp only[zP]at g;have k:=Zd g;clear g A f C k1;rw[YG];go_wp2_with (at_builtin;refine GX (P:=Lp) (w:=w2) rfl (.tmp 31) (.tmp 32) rfl hi (Cz zW) wl c TV.length TV k.out rfl rfl A1 UM.length m1 UM rfl ?_ rfl o! ?d2 z.out.2;intro w3 t m)
 case d2=>exact y.out.2.below s
 have G:Qb6 wl w3:=s.trans (m wl (Zj _));have j:=Zd t;clear t m B;rw[YG];go_wp2;go_ret;refine⟨G,λh=>absurd h (by rw[ZA];omega),λ_=>⟨wl,c,?_,Zj _,H,j.out⟩⟩;rw[ZA];rfl
def aam (w:Zb):Calls Lp 123 #[(),.int .i64 0] w λe w'=>e=.returned ()/\w=w':=by
 go_enter Lp.func187,Tryz.ntmps123;go_wp2;go_ret;exact⟨rfl,rfl⟩
def aan (c:wl.cell? K=some (.slice A0 0 m0))(b:wl.cell? ⟨K,1,none⟩=some (.slice A1 0 m1)):
  Calls Lp 91 #[.slice K 2 2] wl (aak wl []):=by
 obtain⟨a,hi,_,_,_⟩:=zp Hw;go_enter Lp.func159,Tryz.ntmps91;go_wp2;refine Zbd 3 ?_;rw[YG];go_wp2;rw[YG];go_wp2;rw[YG];go_wp2_with (go_at_call 123;refine(aam _).mono ?_;rintro e w1 ⟨rfl,rfl⟩);refine Zbd 3 ?_;rw[YG];go_wp2_with (at_builtin;refine EU (P:=Lp) (w:=wl) rfl (.tmp 31) (.tmp 32) 34 rfl 22 a (Cz zW) (Dz hi) rfl A0 m0 rfl ?_);rw[YG];go_wp2_with (at_builtin;refine EU (P:=Lp) (w:=wl) rfl (.tmp 31) (.tmp 32) 34 rfl 22 a (Cz zW) (Dz hi) rfl A1 m1 rfl ?_);rw[YG];go_wp2;go_ret;exact⟨Zh _ _,λ_=>rfl,λh=>absurd h i!⟩
def als (b:wl.cell? K=some (.slice A0 TV.length m0))(a:wl.cell? ⟨K,1,none⟩=some (.slice A1 UM.length m1))(i:KZ wl A0 TV)(j:KZ wl A1 UM)
 (d:∀u∈TV,u.oneCell'=true) (c:∀u∈UM,u.oneCell'=true) (e:TV.length+UM.length<=1000000):
  Calls Lp 91 #[.slice K 2 2] wl (aak wl (TV++UM)):=by
 by_cases f:0<TV.length+UM.length
 .exact aal b a i j d c e f
 have h:TV=[]:=YM o!;have g:UM=[]:=YM o!;subst h g;exact aan b a
def OZ (e t:Zf)(w:Zb)(b:(((zJ 1 0 3).cut (w.tape w.drawn (.appendCap 1 0 3)):Int)==1)=true):
  Calls Lp 65 #[e,t] w λe' w'=>e'=.panicked [{v:=Wd #[e,t,MD w.heap.size],recovered:=false}]/\Qb6 w w':=by
 have a:=t3b;go_enter Lp.func91,OX;go_wp2;refine⟨rfl,rfl,?_⟩;exact(((Zh _ _).alloc (Zj _) _).alloc i! _).drew
def gO (t:Zf)(w:Zb)(b:(((zJ 1 0 3).cut (w.tape w.drawn (.appendCap 1 0 3)):Int)==1)=false):
  Calls Lp 65 #[.nilIface,t] w λe' w'=>e'=.returned (.bool false)/\Qb6 w w':=by
 have a:=t3b;go_enter Lp.func91,OX;go_wp2;go_ret;exact⟨rfl,(((Zh _ _).alloc (Zj _) _).alloc i! _).drew⟩
def aao (n:Int)(w:Zb):(Zbt (.iface 128 (.agg #[.int .i64 n])) 124 128 false).run Lp w=.ok (.agg #[.int .i64 n]) w:=k!
def aap (a:Addr)(w:Zb):(Zbt (.iface 130 (.pointer (some a))) 20 130 false).run Lp w=.ok (.pointer (some a)) w:=k!
def gP (n m:Int)(t:Nat)(w:Zb)(f:(((zJ 1 0 3).cut (w.tape w.drawn (.appendCap 1 0 3)):Int)==1)=false)(ht:w.heap[t]?=some (.cells #[.int .i64 m] 128 (0,0))):
  Calls Lp 65 #[.iface 128 (.agg #[.int .i64 n]),.iface 130 (.pointer t)] w λe' w'=>e'=.returned (.bool true)/\YH w (w.setCell t (.int .i64 n)) w':=by
 have e:=t3b;have b:=aao;have a:=aap;have g:t<w:=(Za.1 ht).1;have d:w.cell? t=some (.int .i64 m):=by unfold zy;rw[ht];rfl
 have c:w.frozen? t=false:=by unfold Yo;rw[ht];simp
 clear ht;go_enter Lp.func91,OX;go_wp2;go_ret;exact⟨rfl,(((Zh _ _).alloc i! _).alloc i! _).drew⟩
end Go.Proofs.Fit
