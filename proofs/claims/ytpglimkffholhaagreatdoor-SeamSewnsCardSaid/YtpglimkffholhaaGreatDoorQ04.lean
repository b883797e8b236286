/- Part of a proof. -/
import Derived.Test.YtpglimkffholhaaGreatDoorQ03
import Derived.ProofKit
import Derived.WalkKit
import Derived.Lib.Hide
import Derived.Deep.AppendLies
set_option maxRecDepth 100000
set_option maxHeartbeats 6400000
noncomputable section
set_option linter.all false
open And renaming intro->ZY
open Array renaming getElem?_eq_some_iff->Za,getElem?_modify->Y7,getElem?_setIfInBounds_ne->Zk,getElem?_setIfInBounds_self_of_lt->ZV,getElem?_eq_none->YR,replicate->Yu,getElem?_eq_getElem->Zx,getElem?_append_left->zr,getElem?_append_right->Zan
open Go renaming Program->Zo,TypeId->Zs,World->Zb,FuncId->ZaQ,Value->Zf,callFunc->Zz,Operand->Zbv,execOp->Zby,resolve->Zbh,wpList_append_own->Yc,info_parts->zp,run_underlying->Y9,wp_loop_rounds->Zbd,rounds_succ->YG,storeCells->ZbX
open Go.Addr renaming add->Zcu
open Go.Builtin renaming zeroCells->Zt,nextslicecap->Yx,append_->Zao,lenOf->ZcX,firstCells->Zu
open Go.Exit renaming inBlock->ZdC
open Go.Instr renaming typeAssert->Zbt
open Go.Lib renaming hid->Zd
open Go.Obj renaming cells->Zbi
open Go.Oper renaming wp->ZbA
open Go.Program renaming underlying->ZbU,cellsOf->Zco
open Go.Proofs.Tryz renaming prog->Zc,underlying34->zW,f76->Za7
open Go.Question renaming appendCap->zJ
open Go.Result renaming andThen_ok->Zaw
open Go.RowKit renaming Below->YH,intOf->ZdE
open Go.RowKit.Below renaming refl->Zh,heap_setCell->Y4
open Go.Sem renaming run_bind->zg
open Go.Value renaming oneCell'->YT
open Go.World renaming ownsRow_nil->zq,block_lt_of_cell?->ZH,setCell->Z8,frozen?->Yo,cell?->zy
open List renaming map_toArray->Zcr,range'->Zcq,filter_append->ZcW,map_append->Zai,length_filter_le->Zac,length_cons->zb,getElem?_cons_succ->ZD,length_append->ZA,getElem?_append_right->Zbr,getElem?_append_left->zl,nil_append->zP,eq_nil_of_length_eq_zero->YM
open Nat renaming le_refl->Zj,lt_of_lt_of_le->Zl,le_trans->Zr,zero_le->Zp,add_assoc->ZbZ,le_of_eq->ZcS
open Option renaming getD_some->Zw
namespace Go.Proofs.Fit
open Go
def Lp:Zo:=oB Qg
def Jf:Lp.toTables=Tryz.prog.toTables:=rfl
@[simp] def oC (t:Zs):Lp.underlying t=Tryz.prog.underlying t:=by unfold ZbU;rw[Jf]
@[simp] def gK (t:Zs):Lp.info? t=Tryz.prog.info? t:=by rw[Jf]
@[simp] def afG (t:Zs):Lp.cellsOf t=Tryz.prog.cellsOf t:=by unfold Zco;rw[Jf]
@[simp] def afH (t:Zs):Lp.bytesOf t=Tryz.prog.bytesOf t:=by unfold Program.bytesOf;rw[Jf]
def oD:Lp.depth=Tryz.prog.depth:=by unfold Program.depth;rw[Jf]
def gL (Q:Zo)(t:Zs)(w:Zb):(underlying t).run Q w=match Q.underlying t with|some d=>.ok d w|none=>.halt (.stuck "no such type") w:=by
 show(match Q.underlying t with|some d=>pure d|none=>stuck "no such type" :Sem TypeDesc).run Q w=_;cases Q.underlying t<;>rfl
def aH (Q:Zo)(t:Zs)(w:Zb):(typeInfo t).run Q w=match Q.info? t with|some d=>.ok d w|none=>.halt (.stuck "no such type") w:=by
 show(match Q.info? t with|some d=>pure d|none=>stuck "no such type" :Sem TypeInfo).run Q w=_;cases Q.info? t<;>rfl
@[simp] def OW (t:Zs)(w:Zb):(underlying t).run Lp w=(underlying t).run Zc w:=by rw[gL,gL,oC]
@[simp] def PD (t:Zs)(w:Zb):(typeInfo t).run Lp w=(typeInfo t).run Zc w:=by rw[aH,aH,gK]
@[simp] def adb (t:Zs)(w:Zb):(sizeOf t).run Lp w=(sizeOf t).run Zc w:=by
 have h:∀Q,(sizeOf t).run Q w=((typeInfo t).run Q w).andThen λi w=>.ok i.size w:=λQ=>by
  unfold sizeOf;rw[zg];rfl
 rw[h,h,PD]
@[simp] def afI (t:Zs)(w:Zb):(isAgg t).run Lp w=(isAgg t).run Zc w:=by
 have h:∀Q,(isAgg t).run Q w=((underlying t).run Q w).andThen λd w=>.ok (match d with| .struct _| .array _ _=>true|_=>false) w:=λQ=>by
  unfold isAgg;rw[zg]
  congr 1
  funext d w
  cases d<;>rfl
 rw[h,h,OW]
@[simp] def tC (t:Zs)(w:Zb):(zeroValue t).run Lp w=(zeroValue t).run Zc w:=by
 have h:∀Q,(zeroValue t).run Q w=((typeInfo t).run Q w).andThen λi w=>match i.zero with|some v=>.ok v w|none=>.halt (.unsupported (.resourceLimit "a value of more than 2^22 cells")) w:=λQ=>by
  unfold zeroValue;rw[zg]
  congr 1
  funext i w
  cases i.zero<;>rfl
 rw[h,h,PD]
def Ao (Q:Zo)(f:ZaQ){fn:Func}(h:Q.funcs[f]?=some fn)(a:(fn.name== "runtime.NumGoroutine")=false)(d:fn.body.isSome=true)(args:Array Zf)(w:Zb):(Zz f args).run Q w=.ok (.enter f args) w:=by
 have b:fn.body.isNone=false:=by cases c:fn.body<;>simp_all
 show(match Q.funcs[f]? with
  |none=>stuck "call: no such function"
  |some fn=>if fn.name== "runtime.NumGoroutine" then pure .numGoroutine else if fn.body.isNone then _ else pure (.enter f args):Sem Next).run Q w=_
 rw[h];dsimp only;rw[a,b]
 rfl
@[simp] def Lp.func26:Lp.funcs[5]?=some Tryz.f5:=(AP.same 5 rfl rfl).trans Tryz.func5
@[simp] def Lp.call26 (args:Array Zf)(w:Zb):(Zz 5 args).run Lp w=.ok (.enter 5 args) w:=Ao Lp 5 Lp.func26 rfl rfl args w
@[simp] def Lp.func27:Lp.funcs[6]?=some Tryz.f6:=(AP.same 6 rfl rfl).trans Tryz.func6
@[simp] def Lp.func29:Lp.funcs[28]?=some Tryz.f28:=(AP.same 28 rfl rfl).trans Tryz.func28
@[simp] def Lp.call29 (args:Array Zf)(w:Zb):(Zz 28 args).run Lp w=.ok (.enter 28 args) w:=Ao Lp 28 Lp.func29 rfl rfl args w
@[simp] def Lp.func30:Lp.funcs[8]?=some Tryz.f8:=(AP.same 8 rfl rfl).trans Tryz.func8
@[simp] def Lp.call30 (args:Array Zf)(w:Zb):(Zz 8 args).run Lp w=.ok (.enter 8 args) w:=Ao Lp 8 Lp.func30 rfl rfl args w
@[simp] def Lp.func32:Lp.funcs[10]?=some Tryz.f10:=(AP.same 10 rfl rfl).trans Tryz.func10
@[simp] def Lp.call32 (args:Array Zf)(w:Zb):(Zz 10 args).run Lp w=.ok (.enter 10 args) w:=Ao Lp 10 Lp.func32 rfl rfl args w
@[simp] def Lp.func33:Lp.funcs[9]?=some Tryz.f9:=(AP.same 9 rfl rfl).trans Tryz.func9
@[simp] def Lp.call33 (args:Array Zf)(w:Zb):(Zz 9 args).run Lp w=.ok (.enter 9 args) w:=Ao Lp 9 Lp.func33 rfl rfl args w
@[simp] def Lp.func34:Lp.funcs[25]?=some Tryz.f25:=(AP.same 25 rfl rfl).trans Tryz.func25
@[simp] def Lp.call34 (args:Array Zf)(w:Zb):(Zz 25 args).run Lp w=.ok (.enter 25 args) w:=Ao Lp 25 Lp.func34 rfl rfl args w
@[simp] def Lp.func37:Lp.funcs[26]?=some Tryz.f26:=(AP.same 26 rfl rfl).trans Tryz.func26
@[simp] def Lp.call37 (args:Array Zf)(w:Zb):(Zz 26 args).run Lp w=.ok (.enter 26 args) w:=Ao Lp 26 Lp.func37 rfl rfl args w
@[simp] def Lp.func40:Lp.funcs[31]?=some Tryz.f31:=(AP.same 31 rfl rfl).trans Tryz.func31
@[simp] def Lp.call40 (args:Array Zf)(w:Zb):(Zz 31 args).run Lp w=.ok (.enter 31 args) w:=Ao Lp 31 Lp.func40 rfl rfl args w
@[simp] def Lp.func41:Lp.funcs[23]?=some Tryz.f23:=(AP.same 23 rfl rfl).trans Tryz.func23
@[simp] def Lp.call41 (args:Array Zf)(w:Zb):(Zz 23 args).run Lp w=.ok (.enter 23 args) w:=Ao Lp 23 Lp.func41 rfl rfl args w
@[simp] def Lp.func44:Lp.funcs[27]?=some Tryz.f27:=(AP.same 27 rfl rfl).trans Tryz.func27
@[simp] def Lp.call44 (args:Array Zf)(w:Zb):(Zz 27 args).run Lp w=.ok (.enter 27 args) w:=Ao Lp 27 Lp.func44 rfl rfl args w
@[simp] def Lp.func45:Lp.funcs[20]?=some Tryz.f20:=(AP.same 20 rfl rfl).trans Tryz.func20
@[simp] def Lp.call45 (args:Array Zf)(w:Zb):(Zz 20 args).run Lp w=.ok (.enter 20 args) w:=Ao Lp 20 Lp.func45 rfl rfl args w
@[simp] def Lp.func46:Lp.funcs[15]?=some Tryz.f15:=(AP.same 15 rfl rfl).trans Tryz.func15
@[simp] def Lp.call46 (args:Array Zf)(w:Zb):(Zz 15 args).run Lp w=.ok (.enter 15 args) w:=Ao Lp 15 Lp.func46 rfl rfl args w
@[simp] def Lp.func54:Lp.funcs[13]?=some Tryz.f13:=(AP.same 13 rfl rfl).trans Tryz.func13
@[simp] def Lp.call54 (args:Array Zf)(w:Zb):(Zz 13 args).run Lp w=.ok (.enter 13 args) w:=Ao Lp 13 Lp.func54 rfl rfl args w
@[simp] def Lp.func61:Lp.funcs[30]?=some Tryz.f30:=(AP.same 30 rfl rfl).trans Tryz.func30
@[simp] def Lp.call61 (args:Array Zf)(w:Zb):(Zz 30 args).run Lp w=.ok (.enter 30 args) w:=Ao Lp 30 Lp.func61 rfl rfl args w
@[simp] def Lp.func62:Lp.funcs[21]?=some Tryz.f21:=(AP.same 21 rfl rfl).trans Tryz.func21
@[simp] def Lp.call62 (args:Array Zf)(w:Zb):(Zz 21 args).run Lp w=.ok (.enter 21 args) w:=Ao Lp 21 Lp.func62 rfl rfl args w
@[simp] def Lp.func69:Lp.funcs[24]?=some Tryz.f24:=(AP.same 24 rfl rfl).trans Tryz.func24
@[simp] def Lp.call69 (args:Array Zf)(w:Zb):(Zz 24 args).run Lp w=.ok (.enter 24 args) w:=Ao Lp 24 Lp.func69 rfl rfl args w
@[simp] def Lp.func84:Lp.funcs[19]?=some Tryz.f19:=(AP.same 19 rfl rfl).trans Tryz.func19
@[simp] def Lp.call84 (args:Array Zf)(w:Zb):(Zz 19 args).run Lp w=.ok (.enter 19 args) w:=Ao Lp 19 Lp.func84 rfl rfl args w
@[simp] def Lp.func85:Lp.funcs[22]?=some Tryz.f22:=(AP.same 22 rfl rfl).trans Tryz.func22
@[simp] def Lp.call85 (args:Array Zf)(w:Zb):(Zz 22 args).run Lp w=.ok (.enter 22 args) w:=Ao Lp 22 Lp.func85 rfl rfl args w
@[simp] def Lp.func86:Lp.funcs[29]?=some Tryz.f29:=(AP.same 29 rfl rfl).trans Tryz.func29
@[simp] def Lp.call86 (args:Array Zf)(w:Zb):(Zz 29 args).run Lp w=.ok (.enter 29 args) w:=Ao Lp 29 Lp.func86 rfl rfl args w
@[simp] def Lp.func87:Lp.funcs[62]?=some Tryz.f62:=(AP.same 62 rfl rfl).trans Tryz.func62
@[simp] def Lp.call87 (args:Array Zf)(w:Zb):(Zz 62 args).run Lp w=.ok (.enter 62 args) w:=Ao Lp 62 Lp.func87 rfl rfl args w
@[simp] def Lp.func88:Lp.funcs[49]?=some Tryz.f49:=(AP.same 49 rfl rfl).trans Tryz.func49
@[simp] def Lp.call88 (args:Array Zf)(w:Zb):(Zz 49 args).run Lp w=.ok (.enter 49 args) w:=Ao Lp 49 Lp.func88 rfl rfl args w
@[simp] def Lp.func89:Lp.funcs[55]?=some Tryz.f55:=(AP.same 55 rfl rfl).trans Tryz.func55
@[simp] def Lp.call89 (args:Array Zf)(w:Zb):(Zz 55 args).run Lp w=.ok (.enter 55 args) w:=Ao Lp 55 Lp.func89 rfl rfl args w
@[simp] def Lp.func90:Lp.funcs[56]?=some Tryz.f56:=(AP.same 56 rfl rfl).trans Tryz.func56
@[simp] def Lp.call90 (args:Array Zf)(w:Zb):(Zz 56 args).run Lp w=.ok (.enter 56 args) w:=Ao Lp 56 Lp.func90 rfl rfl args w
@[simp] def Lp.func92:Lp.funcs[40]?=some Tryz.f40:=(AP.same 40 rfl rfl).trans Tryz.func40
@[simp] def Lp.call92 (args:Array Zf)(w:Zb):(Zz 40 args).run Lp w=.ok (.enter 40 args) w:=Ao Lp 40 Lp.func92 rfl rfl args w
@[simp] def Lp.func98:Lp.funcs[58]?=some Tryz.f58:=(AP.same 58 rfl rfl).trans Tryz.func58
@[simp] def Lp.call98 (args:Array Zf)(w:Zb):(Zz 58 args).run Lp w=.ok (.enter 58 args) w:=Ao Lp 58 Lp.func98 rfl rfl args w
@[simp] def Lp.func99:Lp.funcs[60]?=some Tryz.f60:=(AP.same 60 rfl rfl).trans Tryz.func60
@[simp] def Lp.call99 (args:Array Zf)(w:Zb):(Zz 60 args).run Lp w=.ok (.enter 60 args) w:=Ao Lp 60 Lp.func99 rfl rfl args w
@[simp] def Lp.func100:Lp.funcs[50]?=some Tryz.f50:=(AP.same 50 rfl rfl).trans Tryz.func50
@[simp] def Lp.call100 (args:Array Zf)(w:Zb):(Zz 50 args).run Lp w=.ok (.enter 50 args) w:=Ao Lp 50 Lp.func100 rfl rfl args w
@[simp] def Lp.func101:Lp.funcs[47]?=some Tryz.f47:=(AP.same 47 rfl rfl).trans Tryz.func47
@[simp] def Lp.call101 (args:Array Zf)(w:Zb):(Zz 47 args).run Lp w=.ok (.enter 47 args) w:=Ao Lp 47 Lp.func101 rfl rfl args w
@[simp] def Lp.func102:Lp.funcs[51]?=some Tryz.f51:=(AP.same 51 rfl rfl).trans Tryz.func51
@[simp] def Lp.call102 (args:Array Zf)(w:Zb):(Zz 51 args).run Lp w=.ok (.enter 51 args) w:=Ao Lp 51 Lp.func102 rfl rfl args w
@[simp] def Lp.func103:Lp.funcs[52]?=some Tryz.f52:=(AP.same 52 rfl rfl).trans Tryz.func52
@[simp] def Lp.call103 (args:Array Zf)(w:Zb):(Zz 52 args).run Lp w=.ok (.enter 52 args) w:=Ao Lp 52 Lp.func103 rfl rfl args w
@[simp] def Lp.func105:Lp.funcs[54]?=some Tryz.f54:=(AP.same 54 rfl rfl).trans Tryz.func54
@[simp] def Lp.call105 (args:Array Zf)(w:Zb):(Zz 54 args).run Lp w=.ok (.enter 54 args) w:=Ao Lp 54 Lp.func105 rfl rfl args w
@[simp] def Lp.func106:Lp.funcs[46]?=some Tryz.f46:=(AP.same 46 rfl rfl).trans Tryz.func46
@[simp] def Lp.call106 (args:Array Zf)(w:Zb):(Zz 46 args).run Lp w=.ok (.enter 46 args) w:=Ao Lp 46 Lp.func106 rfl rfl args w
@[simp] def Lp.func110:Lp.funcs[59]?=some Tryz.f59:=(AP.same 59 rfl rfl).trans Tryz.func59
@[simp] def Lp.call110 (args:Array Zf)(w:Zb):(Zz 59 args).run Lp w=.ok (.enter 59 args) w:=Ao Lp 59 Lp.func110 rfl rfl args w
@[simp] def Lp.func111:Lp.funcs[61]?=some Tryz.f61:=(AP.same 61 rfl rfl).trans Tryz.func61
@[simp] def Lp.call111 (args:Array Zf)(w:Zb):(Zz 61 args).run Lp w=.ok (.enter 61 args) w:=Ao Lp 61 Lp.func111 rfl rfl args w
@[simp] def Lp.func112:Lp.funcs[44]?=some Tryz.f44:=(AP.same 44 rfl rfl).trans Tryz.func44
@[simp] def Lp.call112 (args:Array Zf)(w:Zb):(Zz 44 args).run Lp w=.ok (.enter 44 args) w:=Ao Lp 44 Lp.func112 rfl rfl args w
@[simp] def Lp.func113:Lp.funcs[45]?=some Tryz.f45:=(AP.same 45 rfl rfl).trans Tryz.func45
@[simp] def Lp.call113 (args:Array Zf)(w:Zb):(Zz 45 args).run Lp w=.ok (.enter 45 args) w:=Ao Lp 45 Lp.func113 rfl rfl args w
@[simp] def Lp.func119:Lp.funcs[32]?=some Tryz.f32:=(AP.same 32 rfl rfl).trans Tryz.func32
@[simp] def Lp.call119 (args:Array Zf)(w:Zb):(Zz 32 args).run Lp w=.ok (.enter 32 args) w:=Ao Lp 32 Lp.func119 rfl rfl args w
@[simp] def Lp.func120:Lp.funcs[33]?=some Tryz.f33:=(AP.same 33 rfl rfl).trans Tryz.func33
@[simp] def Lp.call120 (args:Array Zf)(w:Zb):(Zz 33 args).run Lp w=.ok (.enter 33 args) w:=Ao Lp 33 Lp.func120 rfl rfl args w
@[simp] def Lp.func122:Lp.funcs[37]?=some Tryz.f37:=(AP.same 37 rfl rfl).trans Tryz.func37
@[simp] def Lp.call122 (args:Array Zf)(w:Zb):(Zz 37 args).run Lp w=.ok (.enter 37 args) w:=Ao Lp 37 Lp.func122 rfl rfl args w
@[simp] def Lp.func123:Lp.funcs[38]?=some Tryz.f38:=(AP.same 38 rfl rfl).trans Tryz.func38
@[simp] def Lp.call123 (args:Array Zf)(w:Zb):(Zz 38 args).run Lp w=.ok (.enter 38 args) w:=Ao Lp 38 Lp.func123 rfl rfl args w
@[simp] def Lp.func126:Lp.funcs[48]?=some Tryz.f48:=(AP.same 48 rfl rfl).trans Tryz.func48
@[simp] def Lp.call126 (args:Array Zf)(w:Zb):(Zz 48 args).run Lp w=.ok (.enter 48 args) w:=Ao Lp 48 Lp.func126 rfl rfl args w
@[simp] def Lp.func134:Lp.funcs[81]?=some Tryz.f81:=(AP.same 81 rfl rfl).trans Tryz.func81
@[simp] def Lp.call134 (args:Array Zf)(w:Zb):(Zz 81 args).run Lp w=.ok (.enter 81 args) w:=Ao Lp 81 Lp.func134 rfl rfl args w
@[simp] def Lp.func136:Lp.funcs[80]?=some Tryz.f80:=(AP.same 80 rfl rfl).trans Tryz.func80
@[simp] def Lp.call136 (args:Array Zf)(w:Zb):(Zz 80 args).run Lp w=.ok (.enter 80 args) w:=Ao Lp 80 Lp.func136 rfl rfl args w
@[simp] def Lp.func139:Lp.funcs[82]?=some Tryz.f82:=(AP.same 82 rfl rfl).trans Tryz.func82
@[simp] def Lp.call139 (args:Array Zf)(w:Zb):(Zz 82 args).run Lp w=.ok (.enter 82 args) w:=Ao Lp 82 Lp.func139 rfl rfl args w
@[simp] def Lp.func143:Lp.funcs[69]?=some Tryz.f69:=(AP.same 69 rfl rfl).trans Tryz.func69
@[simp] def Lp.call143 (args:Array Zf)(w:Zb):(Zz 69 args).run Lp w=.ok (.enter 69 args) w:=Ao Lp 69 Lp.func143 rfl rfl args w
@[simp] def Lp.func144:Lp.funcs[70]?=some Tryz.f70:=(AP.same 70 rfl rfl).trans Tryz.func70
@[simp] def Lp.call144 (args:Array Zf)(w:Zb):(Zz 70 args).run Lp w=.ok (.enter 70 args) w:=Ao Lp 70 Lp.func144 rfl rfl args w
@[simp] def Lp.func145:Lp.funcs[71]?=some Tryz.f71:=(AP.same 71 rfl rfl).trans Tryz.func71
@[simp] def Lp.call145 (args:Array Zf)(w:Zb):(Zz 71 args).run Lp w=.ok (.enter 71 args) w:=Ao Lp 71 Lp.func145 rfl rfl args w
@[simp] def Lp.func150:Lp.funcs[66]?=some Tryz.f66:=(AP.same 66 rfl rfl).trans Tryz.func66
@[simp] def Lp.call150 (args:Array Zf)(w:Zb):(Zz 66 args).run Lp w=.ok (.enter 66 args) w:=Ao Lp 66 Lp.func150 rfl rfl args w
@[simp] def Lp.func151:Lp.funcs[67]?=some Tryz.f67:=(AP.same 67 rfl rfl).trans Tryz.func67
@[simp] def Lp.call151 (args:Array Zf)(w:Zb):(Zz 67 args).run Lp w=.ok (.enter 67 args) w:=Ao Lp 67 Lp.func151 rfl rfl args w
@[simp] def Lp.func152:Lp.funcs[72]?=some Tryz.f72:=(AP.same 72 rfl rfl).trans Tryz.func72
@[simp] def Lp.call152 (args:Array Zf)(w:Zb):(Zz 72 args).run Lp w=.ok (.enter 72 args) w:=Ao Lp 72 Lp.func152 rfl rfl args w
@[simp] def Lp.func153:Lp.funcs[73]?=some Tryz.f73:=(AP.same 73 rfl rfl).trans Tryz.func73
@[simp] def Lp.func154:Lp.funcs[74]?=some Tryz.f74:=(AP.same 74 rfl rfl).trans Tryz.func74
@[simp] def Lp.call154 (args:Array Zf)(w:Zb):(Zz 74 args).run Lp w=.ok (.enter 74 args) w:=Ao Lp 74 Lp.func154 rfl rfl args w
@[simp] def Lp.func159:Lp.funcs[79]?=some Tryz.f79:=(AP.same 79 rfl rfl).trans Tryz.func79
@[simp] def Lp.func161:Lp.funcs[68]?=some Tryz.f68:=(AP.same 68 rfl rfl).trans Tryz.func68
@[simp] def Lp.call161 (args:Array Zf)(w:Zb):(Zz 68 args).run Lp w=.ok (.enter 68 args) w:=Ao Lp 68 Lp.func161 rfl rfl args w
@[simp] def Lp.func162:Lp.funcs[113]?=some Tryz.f113:=(AP.same 113 rfl rfl).trans Tryz.func113
@[simp] def Lp.call162 (args:Array Zf)(w:Zb):(Zz 113 args).run Lp w=.ok (.enter 113 args) w:=Ao Lp 113 Lp.func162 rfl rfl args w
@[simp] def Lp.func166:Lp.funcs[91]?=some Tryz.f91:=(AP.same 91 rfl rfl).trans Tryz.func91
@[simp] def Lp.call166 (args:Array Zf)(w:Zb):(Zz 91 args).run Lp w=.ok (.enter 91 args) w:=Ao Lp 91 Lp.func166 rfl rfl args w
@[simp] def Lp.func167:Lp.funcs[92]?=some Tryz.f92:=(AP.same 92 rfl rfl).trans Tryz.func92
@[simp] def Lp.call167 (args:Array Zf)(w:Zb):(Zz 92 args).run Lp w=.ok (.enter 92 args) w:=Ao Lp 92 Lp.func167 rfl rfl args w
@[simp] def Lp.func168:Lp.funcs[93]?=some Tryz.f93:=(AP.same 93 rfl rfl).trans Tryz.func93
@[simp] def Lp.call168 (args:Array Zf)(w:Zb):(Zz 93 args).run Lp w=.ok (.enter 93 args) w:=Ao Lp 93 Lp.func168 rfl rfl args w
@[simp] def Lp.func187:Lp.funcs[112]?=some Tryz.f112:=(AP.same 112 rfl rfl).trans Tryz.func112
@[simp] def Lp.call187 (args:Array Zf)(w:Zb):(Zz 112 args).run Lp w=.ok (.enter 112 args) w:=Ao Lp 112 Lp.func187 rfl rfl args w
@[simp] def Lp.func91:Lp.funcs[57]?=some Qg:=NG (by rw[FT];decide)
@[simp] def Lp.call91 (args:Array Zf)(w:Zb):(Zz 57 args).run Lp w=.ok (.enter 57 args) w:=Ao Lp 57 Lp.func91 (by decide) rfl args w
@[simp] def Lp.func104:Lp.funcs[53]?=some Kj:=L8 (by rw[FT];decide)
@[simp] def Lp.call104 (args:Array Zf)(w:Zb):(Zz 53 args).run Lp w=.ok (.enter 53 args) w:=Ao Lp 53 Lp.func104 (by decide) rfl args w
@[simp] def Lp.func155:Lp.funcs[75]?=some MA:=TU (by rw[FT];decide)
@[simp] def Lp.call155 (args:Array Zf)(w:Zb):(Zz 75 args).run Lp w=.ok (.enter 75 args) w:=Ao Lp 75 Lp.func155 (by decide) rfl args w
@[simp] def Lp.func156:Lp.funcs[76]?=some Mz:=L9 (by rw[FT];decide)
variable {t:Zs}
def Cz {d:TypeDesc}(h:Tryz.prog.underlying t=some d):Lp.underlying t=some d:=(oC t).trans h
def Dz {i:TypeInfo}(h:Tryz.prog.info? t=some i):Lp.info? t=some i:=(gK t).trans h
end Go.Proofs.Fit
namespace Go.Proofs.Fit
open Go Go.RowKit
def KY:(Tryz.prog.info? 3).map (λi=>(i.zero,i.size,i.bytes))=some (some (.int .i64 0),1,8):=by kernel_rfl
def Hw:(Tryz.prog.info? 22).map (λi=>(i.zero,i.size,i.bytes))=some (some (.slice none 0 0),1,24):=by kernel_rfl
def MB:Kj.ntmps=14:=rfl
def OX:Qg.ntmps=14:=rfl
def dG:MA.ntmps=13:=rfl
def MC:Mz.ntmps=40:=rfl
def Wd (a:Array Zf):Zf:=.iface 1 (.func (.func 76) #[] a)
def MD (b:Nat):Zf:=.slice (some ⟨b,0,none⟩) 1 1
section
variable {P:Zo}
variable {w w' W w₁ wl:Zb}
variable {ops:Array Oper}
variable {rest:List Oper}
variable {o:Oper}
variable {a:Act}
variable {Q:Exit->Act->Zb->Prop}
def NH (b:o.guard=none)(s x:Zbv)(t:Zs)
 (p:o.op=.call {callee:=.builtin .append,args:= #[s,x],argTypes:= #[t,t]})
 (e:Zs) (i:TypeInfo) (z:Zf) (ht:P.underlying t=some (.slice e)) (hi:P.info? e=some i) (k:i.zero=some z)
 (m:a.eval s=.slice none 0 0) (g:Addr) (n c:Nat) (news:List Zf) (l:a.eval x=.slice (some g) n c) (hl:news.length=n*i.size) (u:∀j v,news[j]?=some v->w.cell? (g.add j)=some v)
 (r:0<n) (d:(n:Int)<=9223372036854775807) (f:n*i.bytes<=281474976710656)
 (h:wpList P ops Q rest (a.put o.dst (.slice (some ⟨w.heap.size,0,none⟩) n (grownCap w n 0 e))) (w.drew.alloc (.cells (news.toArray++Zt z.cells (grownCap w n 0 e - n)) e))):wpList P ops Q (o::rest) a w:=by
 refine wpList_plain b λ_ q=>?_;have y:=run_append_nil (P:=P) w t o.type e i z ht hi k g n c news hl u r d f;unfold ZbA Zby;simp only[p,Zbh,invoke,builtin,zg,Sem.run_pure,Zaw,Zcr,List.map_cons,List.map_nil,m,l,y];exact q _ _ h
end
@[simp] def run_panic_iface (Q:Zo)(t:Zs)(v:Zf)(w:Zb):(Instr.panic (.iface t v)).run Q w=.halt (.panic (.iface t v)) w:=rfl
def t3b:¬281474976710656<Yx 1 0*Tryz.t3.bytes:=by decide+kernel
def Sf (g l s:Zf)(w:Zb)(b:(((zJ 1 0 3).cut (w.tape w.drawn (.appendCap 1 0 3)):Int)==1)=true):
  Calls Lp 53 #[g,l,s] w λe w'=>e=.panicked [{v:=Wd #[g,l,s,MD w.heap.size],recovered:=false}]/\YH w.heap.size w w':=by
 have a:=t3b;go_enter Lp.func104,MB;go_wp2;refine⟨rfl,rfl,?_⟩;exact(((Zh _ _).alloc (Zj _) _).alloc (by simp) _).drew
variable {w w' W w₁ wl:Zb}
variable {xs news TV UM:List Zf}
def G_ {base:Nat}{e:Zs}{size:Nat}{v:Zf}{n:Nat}(h:w.ownsRow base e size v n xs)(a:YH w.heap.size w w'):w'.ownsRow base e size v n xs:=
 h.kept (row:=none) ⟨a.os,a.tape,a.output,a.size,λk b _=>a.block k b⟩ (by cases c:v.ownBlock<;>simp)
def aI {base:Nat}{row:Option Nat}(a:w.grownBy w' row)(d:base<=w.heap.size)(b:∀k,row=some k->base<=k):YH base w w':=
 ⟨a.os,a.tape,a.output,a.size,λk c=>a.block k (by omega) λe=>by have:=b k e.symm;omega⟩
def oE (w:Zb)(news:List Zf)(e:Zs):∀j u,news[j]?=some u->(w.alloc (.cells news.toArray e)).cell? ((⟨w.heap.size,0,none⟩:Addr).add j)=some u:=by
 intro j u b;have a:(⟨w.heap.size,0,none⟩:Addr).add j=⟨w.heap.size,j,none⟩:=by unfold Zcu;split<;>simp_all
 rw[a,World.cell?_alloc_at _ _ _ _ rfl];simpa using b
section
variable {P:Zo}
variable {ops:Array Oper}
variable {rest:List Oper}
variable {o:Oper}
variable {a:Act}
variable {Q:Exit->Act->Zb->Prop}
def GN (f:o.guard=none)(s x:Zbv)(t:Zs)
 (C:o.op=.call {callee:=.builtin .append,args:= #[s,x],argTypes:= #[t,t]})
 (base:Nat) (e:Zs) (i:TypeInfo) (z:Zf) (size b:Nat) (ht:P.underlying t=some (.slice e)) (hi:P.info? e=some i) (y:i.zero=some z)
 (m:i.size=size) (g:i.bytes=b) (d:z.cells.size=size) (I:0<size)
 (v:Zf) (n:Nat) (xs:List Zf) (B:a.eval s=v) (r:W.ownsRow base e size v n xs)
 (q:Addr) (news:List Zf) (c:Nat) (j:q=⟨W.heap.size,0,none⟩) (A:a.eval x=.slice (some q) 1 c)
 (h:∀v' w',w'.ownsRow base e size v' (n+1) (xs++news)->YH base W w'->wpList P ops Q rest (a.put o.dst v') w')
 (hl:news.length=size) (G:∀u∈news,u.oneCell'=true) (l:n+1<=maxLen) (p:(n+1)*b<=140737488355328) (H:base<=W.heap.size):wpList P ops Q (o::rest) a (W.alloc (.cells news.toArray e)):=by
 subst j;refine Yc (w:=W.alloc (.cells news.toArray e)) f s x t C base e i z size b ht hi y m g d I v n xs B (r.alloc _) _ 1 c news A (by omega) (oE W news e) G l p (by simp;omega) λv' w' F E _=>h v' w' F ?_;exact((Zh base W).alloc H _).trans (aI E (by simp;omega) λk D=>(r.lt k D).1)
end
def CF (a:Addr)(n:Nat):(a.add n).block=a.block:=by unfold Zcu;split<;>rfl
def ET (b:Nat)(w w₁:Zb):Prop:=∀p v,p.block<b->w.cell? p=some v->w₁.cell? p=some v
variable {b ln lc lo hi l p g s r c K m0 m1:Nat}
def ET.trans {x y z:Zb}(h:ET b x y)(k:ET b y z):ET b x z:=λp v a c=>k p v a (h p v a c)
def ET.below (h:YH w.heap.size w w₁)(d:b<=w.heap.size):ET b w w₁:=λp v a c=>by
 rw[h.cell (Zl a d)];exact c
structure ME (b:Nat)(w:Zb)(gc:Array Zf)(la:Option Addr)(ln lc:Nat)(sv:Zf)(rows:Nat->Zf)(fit:Nat->Bool):Prop where
 small:ln<=1000000
 cap:ln<=lc/\lc<=maxLen
 gN:gc.size=8
 there:∀i,i<ln->∃ad,la=some ad/\ad.block<b/\w.cell? (ad.add i)=some (rows i)
 row:∀i,i<ln->∃a n c,rows i=.slice a n c/\(0<c\/a=none)
 oF:∃a n c,sv=.slice a n c
 fits:∀i,i<ln->∀w₁,ET b w w₁->Calls Lp 48 #[.agg gc,rows i,sv] w₁ λe w₂=>e=.returned (.bool (fit i))/\YH w₁.heap.size w₁ w₂
variable {gc:Array Zf}
variable {la A0 A1:Option Addr}
variable {sv:Zf}
variable {fit:Nat->Bool}
def ME.Ar {rows:Nat->Zf}(h:ME b w gc la ln lc sv rows fit)(k:ET b w w₁):ME b w₁ gc la ln lc sv rows fit:=
 ⟨h.small,h.cap,h.gN,λi hi=>by
  obtain⟨g,f,c,e⟩:=h.there i hi;exact⟨g,f,c,k _ _ (by rw[CF];exact c) e⟩,h.row,h.oF,λi hi a d=>h.fits i hi a (k.trans d)⟩
def CX (rows:Nat->Zf)(fit:Nat->Bool)(lo hi:Nat):List Zf:=((Zcq lo (hi - lo)).filter fit).map rows
section
variable {rows:Nat->Zf}{fit:Nat->Bool}
def NJ (lo:Nat):CX rows fit lo lo=[]:=by simp[CX]
def Sg {k:Nat}(h:lo<=k):CX rows fit lo (k+1)=if fit k=true then CX rows fit lo k++ [rows k] else CX rows fit lo k:=by
 unfold CX;have e:k+1 - lo=(k - lo)+1:=by omega
 rw[e,List.range'_concat,ZcW,Zai];have b:lo+1*(k - lo)=k:=by omega
 rw[b];by_cases a:fit k=true<;>simp[a]
def Dh:(CX rows fit lo hi).length<=hi - lo:=by
 unfold CX;rw[List.length_map];refine Zr (Zac _ _) (by simp)
def dH {a:Nat}(c:lo<=a)(b:a<=hi):CX rows fit lo a++CX rows fit a hi=CX rows fit lo hi:=by
 unfold CX;rw[<-Zai, <-ZcW]
 congr 2
 have e:hi - lo=(a - lo)+(hi - a):=by omega
 rw[e, <-List.range'_append_1]
 congr 2
 omega
end
def Sh (base lo k:Nat)(rows:Nat->Zf)(fit:Nat->Bool)(v:Zf)(wr:Zb):Prop:=wr.ownsRow base 22 1 v (CX rows fit lo k).length (CX rows fit lo k)
def E7 {w1:Zb}(a:YH W.heap.size W w1):(∀b o,b<W.heap.size->w1.cell? ⟨b,o,none⟩=W.cell? ⟨b,o,none⟩)/\(∀b o,b<W.heap.size->w1.frozen? ⟨b,o,none⟩=W.frozen? ⟨b,o,none⟩):=
 ⟨λb o h=>a.cell (p:=⟨b,o,none⟩) h,λb o h=>a.frozen (p:=⟨b,o,none⟩) h⟩
def alo {rows:Nat->Zf}(H:ME b w gc la ln lc sv rows fit)(I:b<=w.heap.size):
  Calls Lp 75 #[.agg gc,.slice la ln lc,sv] w λe w'=>∃v,e=.returned v/\Sh w.heap.size 0 ln rows fit v w'/\YH w.heap.size w w':=by
 obtain⟨E,hi,J,L,K⟩:=zp Hw;have N:=H.small;go_enter Lp.func155,dG;go_wp2
 go_loopw [3,5] (λv i wr=>∃k:Nat,k<=ln/\i=.int .i64 k/\Sh w.heap.size 0 k rows fit v wr/\YH w.heap.size w wr) (λ_ i _=>ln - (ZdE i).toNat)
 case atStart=>exact⟨0,Zp _,rfl,by unfold Sh;rw[NJ];exact zq _ _ _ _,Zh _ _⟩
 obtain⟨k,M,rfl,j,g⟩:=hrel;have z:=g.size;by_cases o:k<ln
 .obtain⟨t,rfl,O,u⟩:=H.there k o
  obtain⟨s,q,r,h,_⟩:=H.row k o;have d:=H.fits k o wr (ET.below g I);have F:wr.cell? (t.add k)=some (.slice s q r):=by rw[<-h,g.cell (p:=t.add k) (by rw[CF];omega)];exact u
  rw[h]at d;clear u;have x:=Zd (Sg (rows:=rows) (fit:=fit) (Zp k));have G:=Zd h;clear h;cases c:fit k with
  |true=>
   rw[c]at d;have n:=Zd c;clear c;have B:wr.ownsRow w.heap.size 22 1 u3 (CX rows fit 0 k).length (CX rows fit 0 k):=j;clear j;go_wp2_with (first
    |(go_at_call 48;refine d.mono ?_;rintro e w1 ⟨rfl,f⟩)
    |(at_builtin;refine GN (P:=Lp) (W:=w1) rfl (.tmp 3) (.tmp 10) 34 rfl w.heap.size 22 E (.slice none 0 0) 1 24 (Cz zW) (Dz hi) J L K rfl (by decide) u3 _ _ rfl (G_ B f) ⟨w1.heap.size,0,none⟩ [.slice s q r] 1 rfl rfl ?_ rfl ?c1 ?c2 ?c3 ?c4
      intro C w2 A y))
   case c1=>simp[YT]
   case c2=>have:=Dh (rows:=rows) (fit:=fit) (lo:=0) (hi:=k);simp only[maxLen];omega
   case c3=>have:=Dh (rows:=rows) (fit:=fit) (lo:=0) (hi:=k);omega
   case c4=>have:=f.size;omega
   have a:=x.out;rw[if_pos n.out,G.out]at a;have m:Sh w.heap.size 0 (k+1) rows fit C w2:=by unfold Sh;rw[a];simpa using A
   have l:YH w.heap.size w w2:=(g.trans (f.mono z)).trans y;clear A y a B d F;go_wp2
   go_roundw
   case rel=>exact⟨k+1,by omega,by go_num,m,l⟩
   case measure=>simp[ZdE];omega
  |false=>
   rw[c]at d;have n:=Zd c;clear c;go_wp2_with (first|(go_at_call 48;refine d.mono ?_;rintro e w1 ⟨rfl,f⟩));have a:=x.out;rw[if_neg (by rw[n.out];simp)]at a;have m:Sh w.heap.size 0 (k+1) rows fit u3 w1:=by unfold Sh;rw[a];exact G_ j f
   have l:YH w.heap.size w w1:=g.trans (f.mono z)
   go_roundw
   case rel=>exact⟨k+1,by omega,by go_num,m,l⟩
   simp[ZdE];omega
 have D:k=ln:=by omega
 subst D;go_wp2;go_ret;exact⟨_,rfl,j,g⟩
variable {ops:Array Oper}
variable {rest:List Oper}
variable {o:Oper}
variable {a:Act}
variable {Q:Exit->Act->Zb->Prop}
def EU {P:Zo}(b:o.guard=none)(s x:Zbv)(t:Zs)
 (g:o.op=.call {callee:=.builtin .append,args:= #[s,x],argTypes:= #[t,t]})
 (e:Zs) (i:TypeInfo) (ht:P.underlying t=some (.slice e)) (hi:P.info? e=some i)
 (f:a.eval s=.slice none 0 0) (A:Option Addr) (c:Nat) (d:a.eval x=.slice A 0 c)
 (h:wpList P ops Q rest (a.put o.dst (.slice none 0 0)) w):wpList P ops Q (o::rest) a w:=by
 refine wpList_plain b λ_ j=>?_;have k:(Zao #[t,t] o.type #[.slice none 0 0,.slice A 0 c]).run P w=.ok (.slice none 0 0) w:=by
  cases A<;>simp[Zao,Y9 ht,sizeOf,typeInfo,hi,ZcX,Zu]
  rfl
 unfold ZbA Zby;simp only[g,Zbh,invoke,builtin,zg,Sem.run_pure,Zaw,Zcr,List.map_cons,List.map_nil,f,d,k];exact j _ _ h
def aag (w:Zb)(xs:List Zf)(e:Ending)(w':Zb):Prop:=
 ∃w₁,YH w.heap.size w w₁/\(xs.length=0->e=.returned (.slice none 0 0)/\w'=w₁)/\
  (0<xs.length->e=.returned (.slice (some ⟨w₁.heap.size,0,none⟩) xs.length (grownCap w₁ xs.length 0 22))/\w'=w₁.drew.alloc (.cells (xs.toArray++Zt #[.slice none 0 0] (grownCap w₁ xs.length 0 22 - xs.length)) 22))
def aJ {rows:Nat->Zf}(H:ME w.heap.size w gc la ln lc sv rows fit)(R:(((zJ 1 0 3).cut (w.tape w.drawn (.appendCap 1 0 3)):Int)==1)=false):
  Calls Lp 53 #[.agg gc,.slice la ln lc,sv] w (aag w (CX rows fit 0 ln)):=by
 obtain⟨C,hi,I,K,J⟩:=zp Hw;have m:=t3b;have S:=H.small;have T:=Dh (rows:=rows) (fit:=fit) (lo:=0) (hi:=ln);have p:∀W,YH w.heap.size w W->Calls Lp 75 #[.agg gc,.slice la ln lc,sv] W λe w'=>∃v,e=.returned v/\Sh W.heap.size 0 ln rows fit v w'/\YH W.heap.size W w':=λW b=>alo (H.Ar (ET.below b (Zj _))) b.size;have M:∀u∈CX rows fit 0 ln,u.oneCell'=true:=by
  intro u D;unfold CX at D;obtain⟨i,hi,rfl⟩:=List.mem_map.1 D;have:=(List.mem_filter.1 hi).1;rw[List.mem_range']at this;obtain⟨j,Q,rfl⟩:=this;obtain⟨a,n,c,e,_⟩:=H.row (0+1*j) (by omega);rw[e];rfl
 have B:∀W y,YH w.heap.size w W->YH W.heap.size W y->YH w.heap.size w y:=λW y h k=>h.trans (k.mono h.size);generalize l:CX rows fit 0 ln=xs at*;have E:=Zd l;clear l;by_cases d:xs.length=0
 .have s:∀W,YH w.heap.size w W->Calls Lp 75 #[.agg gc,.slice la ln lc,sv] W λe w'=>∃A c,e=.returned (.slice A 0 c)/\YH w.heap.size w w':=λW b=>(p W b).mono λe w' ⟨v,o,r,m⟩=>by
   have f:w'.ownsRow W.heap.size 22 1 v (CX rows fit 0 ln).length (CX rows fit 0 ln):=r;rw[E.out,d]at f;rcases f.2 with⟨rfl,_⟩|⟨g,x,t,rfl,_⟩
   .exact⟨_,_,o,B _ _ b m⟩
   exact⟨_,_,o,B _ _ b m⟩
  clear p;have O:=Zd d;clear d I K J;go_enter Lp.func104,MB;go_wp2_with (first
   |(go_at_call 75;refine(s _ (((Zh _ _).alloc (Zj _) _).alloc (by simp) _).drew).mono ?_
     rintro e w1 ⟨A,c,rfl,z⟩)
   |(at_builtin;refine EU (P:=Lp) (w:=w1) rfl (.const (.slice none 0 0)) (.tmp 11) 34 rfl 22 C (Cz zW) (Dz hi) rfl A c rfl ?_))
  all_goals go_ret
  all_goals exact⟨w1,z,λ_=>⟨rfl,rfl⟩,λh=>absurd O.out (by omega)⟩
 have N:∀W,YH w.heap.size w W->Calls Lp 75 #[.agg gc,.slice la ln lc,sv] W λe w'=>∃q c,e=.returned (.slice (some q) xs.length c)/\YH w.heap.size w w'/\∀j v,xs[j]?=some v->w'.cell? (q.add j)=some v:=λW b=>(p W b).mono λe w' ⟨v,o,r,m⟩=>by
  have f:w'.ownsRow W.heap.size 22 1 v (CX rows fit 0 ln).length (CX rows fit 0 ln):=r;rw[E.out]at f;rcases f.2 with⟨_,L⟩|⟨g,x,t,rfl,_⟩
  .exact absurd L d
  exact⟨_,_,o,B _ _ b m,f.cells rfl⟩
 clear p;have G:=Zd (Nat.pos_of_ne_zero d);clear d;go_enter Lp.func104,MB;go_wp2_with (first
  |(go_at_call 75;refine(N _ (((Zh _ _).alloc (Zj _) _).alloc (by simp) _).drew).mono ?_
    rintro e w1 ⟨q,c,rfl,z,F⟩)
  |(at_builtin;refine NH (P:=Lp) (w:=w1) rfl (.const (.slice none 0 0)) (.tmp 11) 34 rfl 22 C (.slice none 0 0) (Cz zW) (Dz hi) I rfl q xs.length c xs rfl (by rw[K];simp) F G.out (by omega) (by rw[J];omega) ?_
    clear F))
 all_goals go_ret
 all_goals exact⟨w1,z,λh=>absurd G.out (by omega),λ_=>⟨rfl,rfl⟩⟩
def afL (t:Array Zf)(h:t.size=8):∃i g f e d c b a,t= #[i,g,f,e,d,c,b,a]:=by
 obtain⟨l⟩:=t
 match l,h with
 | [i,g,f,e,d,c,b,a],_=>exact⟨i,g,f,e,d,c,b,a,rfl⟩
def dI (a:Addr)(i j:Nat):(a.add i).add j=a.add (i+j):=by
 unfold Zcu;by_cases hi:i=0<;>by_cases b:j=0<;>simp[hi,b,ZbZ]
def tD (wl:Zb)(p lo hi:Nat)(rows:Nat->Zf)(fit:Nat->Bool)(e:Ending)(w':Zb):Prop:=
 ∃v,e=.returned (.tuple #[v,.pointer (some ⟨p,0,none⟩)])/\Sh wl.heap.size lo hi rows fit v w'/\YH wl.heap.size wl w'
variable {ad:Addr}
variable {fz:Nat×Nat}
def aah {rows:Nat->Zf}(H:ME b wl gc (some ad) ln lc sv rows fit)(GK:b<=wl.heap.size)
 (hl:wl.cell? ⟨l,0,none⟩=some (.slice (some ad) ln lc)) (hp:wl.cell? ⟨p,0,none⟩=some (.int .i64 0)) (x:wl.heap[g]?=some (.cells gc 73 fz)) (w:wl.cell? ⟨s,0,none⟩=some sv):
  Calls Lp 76 (E6 l p g s) wl (tD wl p 0 (ln / 2) rows fit):=by
 obtain⟨U,hi,Fl,DR,EB⟩:=zp Hw;have Qh:=H.small;obtain⟨D,r,q,o,n,C,B,A,rfl⟩:=afL gc H.gN;obtain⟨T,R,S,rfl⟩:=H.oF;have yM:=H.cap;have IX:maxLen=9223372036854775807:=rfl;have c:∀i v,(#[D,r,q,o,n,C,B,A]:Array Zf)[i]?=some v->wl.cell? ⟨g,i,none⟩=some v:=λi v V=>by rw[cell_of_row wl g i _ 73 fz x];exact V
 have d:g<wl.heap.size:=(Za.1 x).1;have NK:s<wl.heap.size:=ZH wl _ w;have q1:(ln:Int) / 2<=(lc:Int):=by omega
 have HH:=Zd H;clear x;unfold E6 ptr;go_enter Lp.func156,MC;simp only[Jd,Gb,Za7,Zw,lef,rN];go_wp2;clear hl hp
 go_loopw [6,23] (λv i wr=>∃k:Nat,k<=ln / 2/\i=.int .i64 k/\Sh wl.heap.size 0 k rows fit v wr/\YH wl.heap.size wl wr) (λ_ i _=>ln / 2 - (ZdE i).toNat)
 case atStart=>exact⟨0,Zp _,rfl,by unfold Sh;rw[NJ];exact zq _ _ _ _,Zh _ _⟩
 obtain⟨k,hk,rfl,u,a⟩:=hrel;have M:=a.size;by_cases Az:k<ln / 2
 .obtain⟨ai,e,DU,J⟩:=H.there k (by omega)
  cases e;obtain⟨I,F,G,t,_⟩:=H.row k (by omega);have j:=H.fits k (by omega) wr (ET.below a GK);have X:wr.cell? (ad.add k)=some (.slice I F G):=by rw[<-t,a.cell (p:=ad.add k) (by rw[CF];omega)];exact J
  rw[t]at j;clear J;have K:=Zd (Sg (rows:=rows) (fit:=fit) (Zp k));have HR:=Zd t;clear t;have g0:wr.cell? ⟨g,0,none⟩=some D:=by rw[a.cell (p:=⟨g,0,none⟩) d];exact c 0 D rfl
  have g1:wr.cell? ⟨g,1,none⟩=some r:=by rw[a.cell (p:=⟨g,1,none⟩) d];exact c 1 r rfl
  have g2:wr.cell? ⟨g,2,none⟩=some q:=by rw[a.cell (p:=⟨g,2,none⟩) d];exact c 2 q rfl
  have g3:wr.cell? ⟨g,3,none⟩=some o:=by rw[a.cell (p:=⟨g,3,none⟩) d];exact c 3 o rfl
  have g4:wr.cell? ⟨g,4,none⟩=some n:=by rw[a.cell (p:=⟨g,4,none⟩) d];exact c 4 n rfl
  have g5:wr.cell? ⟨g,5,none⟩=some C:=by rw[a.cell (p:=⟨g,5,none⟩) d];exact c 5 C rfl
  have Z:wr.cell? ⟨g,6,none⟩=some B:=by rw[a.cell (p:=⟨g,6,none⟩) d];exact c 6 B rfl
  have Y:wr.cell? ⟨g,7,none⟩=some A:=by rw[a.cell (p:=⟨g,7,none⟩) d];exact c 7 A rfl
  have DX:wr.cell? ⟨s,0,none⟩=some (.slice T R S):=by rw[a.cell (p:=⟨s,0,none⟩) NK];exact w
  have am:=Zd c;clear c w H;cases h:fit k with
  |true=>
   rw[h]at j;have E:=Zd h;clear h;have O:wr.ownsRow wl.heap.size 22 1 u6 (CX rows fit 0 k).length (CX rows fit 0 k):=u;clear u;go_wp2_with (first
    |(go_at_call 48;refine j.mono ?_;rintro e w1 ⟨rfl,m⟩)
    |(at_builtin;refine GN (P:=Lp) (W:=w1) rfl (.tmp 31) (.tmp 33) 34 rfl wl.heap.size 22 U (.slice none 0 0) 1 24 (Cz zW) (Dz hi) Fl DR EB rfl (by decide) u6 _ _ rfl (G_ O m) ⟨w1.heap.size,0,none⟩ [.slice I F G] 1 rfl rfl ?_ rfl ?c1 ?c2 ?c3 ?c4
      intro Q w2 N L))
   case c1=>simp[YT]
   case c2=>have:=Dh (rows:=rows) (fit:=fit) (lo:=0) (hi:=k);omega
   case c3=>have:=Dh (rows:=rows) (fit:=fit) (lo:=0) (hi:=k);omega
   case c4=>have:=m.size;omega
   have f:=K.out;rw[if_pos E.out,HR.out]at f;have z:Sh wl.heap.size 0 (k+1) rows fit Q w2:=by unfold Sh;rw[f];simpa using N
   have y:YH wl.heap.size wl w2:=(a.trans (m.mono M)).trans L;clear N L f O j X g0 g1 g2 g3 g4 g5 Z Y DX;go_wp2
   go_roundw
   case rel=>exact⟨k+1,by omega,by go_num,z,y⟩
   case measure=>simp[ZdE];omega
  |false=>
   rw[h]at j;have E:=Zd h;clear h;go_wp2_with (first|(go_at_call 48;refine j.mono ?_;rintro e w1 ⟨rfl,m⟩));have f:=K.out;rw[if_neg (by rw[E.out];simp)]at f;have z:Sh wl.heap.size 0 (k+1) rows fit u6 w1:=by unfold Sh;rw[f];exact G_ u m
   have y:YH wl.heap.size wl w1:=a.trans (m.mono M)
   go_roundw
   case rel=>exact⟨k+1,by omega,by go_num,z,y⟩
   simp[ZdE];omega
 obtain rfl:k=ln / 2:=by omega
 clear H c;go_wp2
 (try simp only[ZdC,Exit.then])
 refine bodyPost_end (results_tmp2 rfl _ _ _) rfl ?_;exact⟨_,rfl,u,a⟩
def aai {rows:Nat->Zf}(H:ME b wl gc (some ad) ln lc sv rows fit)(GK:b<=wl.heap.size)
 (hl:wl.cell? ⟨l,0,none⟩=some (.slice (some ad) ln lc)) (hp:wl.cell? ⟨p,0,none⟩=some (.int .i64 1)) (UO:0<ln) (x:wl.heap[g]?=some (.cells gc 73 fz)) (w:wl.cell? ⟨s,0,none⟩=some sv):
  Calls Lp 76 (E6 l p g s) wl (tD wl p (ln / 2) ln rows fit):=by
 obtain⟨U,hi,Fl,DR,EB⟩:=zp Hw;have Qh:=H.small;obtain⟨D,r,q,o,n,C,B,A,rfl⟩:=afL gc H.gN;obtain⟨T,R,S,rfl⟩:=H.oF;have yM:=H.cap;have IX:maxLen=9223372036854775807:=rfl;have c:∀i v,(#[D,r,q,o,n,C,B,A]:Array Zf)[i]?=some v->wl.cell? ⟨g,i,none⟩=some v:=λi v V=>by rw[cell_of_row wl g i _ 73 fz x];exact V
 have f:g<wl.heap.size:=(Za.1 x).1;have NK:s<wl.heap.size:=ZH wl _ w;have q1:(ln:Int) / 2<=(lc:Int):=by omega
 have q2:¬lc=ln / 2:=by omega
 have q3:(ln:Int) / 2<=(ln:Int):=by omega
 have q4:(ln:Int)<=(lc:Int):=by omega
 have HH:=Zd H;clear x;unfold E6 ptr;go_enter Lp.func156,MC;simp only[Jd,Gb,Za7,Zw,lef,rN];go_wp2;clear hl hp
 go_loopw [6,23] (λv i wr=>∃k:Nat,k<=ln - ln / 2/\i=.int .i64 k/\Sh wl.heap.size (ln / 2) (ln / 2+k) rows fit v wr/\YH wl.heap.size wl wr) (λ_ i _=>ln - ln / 2 - (ZdE i).toNat)
 case atStart=>exact⟨0,Zp _,rfl,by unfold Sh;rw[Nat.add_zero,NJ];exact zq _ _ _ _,Zh _ _⟩
 obtain⟨k,hk,rfl,t,a⟩:=hrel;have M:=a.size;by_cases Az:k<ln - ln / 2
 .obtain⟨ai,e,DU,J⟩:=H.there (ln / 2+k) (by omega)
  cases e;obtain⟨I,F,G,u,_⟩:=H.row (ln / 2+k) (by omega);have j:=H.fits (ln / 2+k) (by omega) wr (ET.below a GK);have X:wr.cell? ((ad.add (ln / 2)).add k)=some (.slice I F G):=by rw[dI, <-u,a.cell (p:=ad.add (ln / 2+k)) (by rw[CF];omega)];exact J
  rw[u]at j;clear J;have K:=Zd (Sg (rows:=rows) (fit:=fit) (show ln / 2<=ln / 2+k by omega));have HR:=Zd u;clear u;have g0:wr.cell? ⟨g,0,none⟩=some D:=by rw[a.cell (p:=⟨g,0,none⟩) f];exact c 0 D rfl
  have g1:wr.cell? ⟨g,1,none⟩=some r:=by rw[a.cell (p:=⟨g,1,none⟩) f];exact c 1 r rfl
  have g2:wr.cell? ⟨g,2,none⟩=some q:=by rw[a.cell (p:=⟨g,2,none⟩) f];exact c 2 q rfl
  have g3:wr.cell? ⟨g,3,none⟩=some o:=by rw[a.cell (p:=⟨g,3,none⟩) f];exact c 3 o rfl
  have g4:wr.cell? ⟨g,4,none⟩=some n:=by rw[a.cell (p:=⟨g,4,none⟩) f];exact c 4 n rfl
  have g5:wr.cell? ⟨g,5,none⟩=some C:=by rw[a.cell (p:=⟨g,5,none⟩) f];exact c 5 C rfl
  have Z:wr.cell? ⟨g,6,none⟩=some B:=by rw[a.cell (p:=⟨g,6,none⟩) f];exact c 6 B rfl
  have Y:wr.cell? ⟨g,7,none⟩=some A:=by rw[a.cell (p:=⟨g,7,none⟩) f];exact c 7 A rfl
  have DX:wr.cell? ⟨s,0,none⟩=some (.slice T R S):=by rw[a.cell (p:=⟨s,0,none⟩) NK];exact w
  have am:=Zd c;clear c w H;cases h:fit (ln / 2+k) with
  |true=>
   rw[h]at j;have E:=Zd h;clear h;have O:wr.ownsRow wl.heap.size 22 1 u6 (CX rows fit (ln / 2) (ln / 2+k)).length (CX rows fit (ln / 2) (ln / 2+k)):=t;clear t;go_wp2_with (first
    |(go_at_call 48;refine j.mono ?_;rintro e w1 ⟨rfl,m⟩)
    |(at_builtin;refine GN (P:=Lp) (W:=w1) rfl (.tmp 31) (.tmp 33) 34 rfl wl.heap.size 22 U (.slice none 0 0) 1 24 (Cz zW) (Dz hi) Fl DR EB rfl (by decide) u6 _ _ rfl (G_ O m) ⟨w1.heap.size,0,none⟩ [.slice I F G] 1 rfl rfl ?_ rfl ?c1 ?c2 ?c3 ?c4
      intro Q w2 N L))
   case c1=>simp[YT]
   case c2=>have:=Dh (rows:=rows) (fit:=fit) (lo:=ln / 2) (hi:=ln / 2+k);omega
   case c3=>have:=Dh (rows:=rows) (fit:=fit) (lo:=ln / 2) (hi:=ln / 2+k);omega
   case c4=>have:=m.size;omega
   have d:=K.out;rw[ZbZ]at d;rw[if_pos E.out,HR.out]at d;have z:Sh wl.heap.size (ln / 2) (ln / 2+(k+1)) rows fit Q w2:=by unfold Sh;rw[d];simpa using N
   have y:YH wl.heap.size wl w2:=(a.trans (m.mono M)).trans L;clear N L d O j X g0 g1 g2 g3 g4 g5 Z Y DX;go_wp2
   go_roundw
   case rel=>exact⟨k+1,by omega,by go_num,z,y⟩
   case measure=>simp[ZdE];omega
  |false=>
   rw[h]at j;have E:=Zd h;clear h;go_wp2_with (first|(go_at_call 48;refine j.mono ?_;rintro e w1 ⟨rfl,m⟩));have d:=K.out;rw[ZbZ]at d;rw[if_neg (by rw[E.out];simp)]at d;have z:Sh wl.heap.size (ln / 2) (ln / 2+(k+1)) rows fit u6 w1:=by unfold Sh;rw[d];exact G_ t m
   have y:YH wl.heap.size wl w1:=a.trans (m.mono M)
   go_roundw
   case rel=>exact⟨k+1,by omega,by go_num,z,y⟩
   simp[ZdE];omega
 obtain rfl:k=ln - ln / 2:=by omega
 have e:ln / 2+(ln - ln / 2)=ln:=by omega
 rw[e]at t;clear e;clear H c;go_wp2
 (try simp only[ZdC,Exit.then])
 refine bodyPost_end (results_tmp2 rfl _ _ _) rfl ?_;exact⟨_,rfl,t,a⟩
def aaj {rows:Nat->Zf}{k:Int}(a:k=0\/k=1)
 (hl:wl.cell? ⟨l,0,none⟩=some (.slice la 0 lc)) (hp:wl.cell? ⟨p,0,none⟩=some (.int .i64 k)):
  Calls Lp 76 (E6 l p g s) wl (tD wl p 0 0 rows fit):=by
 have b:maxLen=9223372036854775807:=rfl;unfold E6 ptr;rcases a with rfl|rfl<;>cases la
 all_goals
  go_enter Lp.func156,MC;simp only[Jd,Gb,Za7,Zw,lef,rN];go_wp2;refine Zbd 1 ?_;rw[YG];go_wp2
  (try simp only[ZdC,Exit.then])
  refine bodyPost_end (results_tmp2 rfl _ _ _) rfl ?_;exact⟨_,rfl,by unfold Sh;rw[NJ];exact zq _ _ _ _,Zh _ _⟩
def alq {rows:Nat->Zf}(H:ME b wl gc la ln lc sv rows fit)(f:b<=wl.heap.size)(k:Nat)(j:k<2)
 (hl:wl.cell? ⟨l,0,none⟩=some (.slice la ln lc)) (hp:wl.cell? ⟨p,0,none⟩=some (.int .i64 k)) (e:wl.heap[g]?=some (.cells gc 73 fz)) (d:wl.cell? ⟨s,0,none⟩=some sv):
  Calls Lp 76 (E6 l p g s) wl (tD wl p (k*ln / 2) ((k+1)*ln / 2) rows fit):=by
 by_cases h:ln=0
 .subst h
  have c:k*0 / 2=0:=by omega
  have a:(k+1)*0 / 2=0:=by omega
  rw[c,a];exact aaj (k:=k) (by omega) hl hp
 obtain⟨ad,rfl,_⟩:=H.there 0 (by omega);have i:k=0\/k=1:=by omega
 rcases i with rfl|rfl
 .have c:0*ln / 2=0:=by omega
  have a:(0+1)*ln / 2=ln / 2:=by omega
  rw[c,a];exact aah H f hl hp e d
 have c:1*ln / 2=ln / 2:=by omega
 have a:(1+1)*ln / 2=ln:=by omega
 rw[c,a];exact aai H f hl hp (by omega) e d
def L_ (b:Nat):∀(c:List Zf) (o:Nat) (w:Zb) (a:Array Zf) (e:Zs) (f:Nat×Nat),w.heap[b]?=some (.cells a e f)->
  ∃d:Array Zf,(w.setCells b o c).heap[b]?=some (.cells d e f)/\d.size=a.size/\(∀i,d[i]?=if o<=i/\i<o+c.length/\i<a.size then c[i - o]? else a[i]?)/\
   (∀k,k≠b->(w.setCells b o c).heap[k]?=w.heap[k]?)/\(w.setCells b o c).heap.size=w.heap.size/\(w.setCells b o c).os=w.os/\(w.setCells b o c).tape=w.tape/\(w.setCells b o c).output=w.output
 | [],o,w,a,e,f,h=>⟨a,h,rfl,λi=>by rw[if_neg (by simp;omega)],λ_ _=>rfl,rfl,rfl,rfl,rfl⟩
 |v::r,o,w,a,e,f,h=>by
  have l:(w.setCell ⟨b,o,none⟩ v).heap[b]?=some (.cells (a.setIfInBounds o v) e f):=by
   simp[Z8,Y7,h]
  obtain⟨d,x,u,t,s,q,p,n,m⟩:=L_ b r (o+1) _ _ e f l;refine⟨d,x,by rw[u];simp,λi=>?_,λk j=>(s k j).trans (Y4 w _ v k j),by show((w.setCell ⟨b,o,none⟩ v).setCells b (o+1) r).heap.size=_;rw[q];simp[Z8],p,n,m⟩;rw[t i];simp only[Array.size_setIfInBounds,zb];by_cases hi:i<a.size
  .rcases Nat.lt_trichotomy i o with g|g|g
   .rw[if_neg (by omega),if_neg (by omega),Zk (by omega)]
   .subst g
    rw[if_neg (by omega),if_pos (by omega),ZV hi];simp
   by_cases y:i<o+1+r.length
   .rw[if_pos (by omega),if_pos (by omega)]
    have:i - o=(i - (o+1))+1:=by omega
    rw[this,ZD]
   rw[if_neg (by omega),if_neg (by omega),Zk (by omega)]
  rw[if_neg (by omega),if_neg (by omega)];rw[YR (by simp;omega),YR (by omega)]
abbrev TW:Zf:=.slice none 0 0
def Room (w:Zb)(r c:Nat)(xs:List Zf):Prop:=xs.length<=c/\w.heap[r]?=some (.cells (xs.toArray++Yu (c - xs.length) TW) 22 (0,0))
def IM (n:Nat):Zt #[TW] n=Yu n TW:=by
 unfold Zt;apply Array.ext
 .simp
 intro i b a;simp[Nat.mod_one]
def Room.cell (h:Room w r c xs)(i:Nat):w.cell? ⟨r,i,none⟩=(xs.toArray++Yu (c - xs.length) TW)[i]? :=cell_of_row w r i _ 22 (0,0) h.2
section
variable {P:Zo}
def Room.put (h:Room w r c xs)(f:xs.length+news.length<=c):Room (w.setCells r xs.length news) r c (xs++news)/\(∀k,k≠r->(w.setCells r xs.length news).heap[k]?=w.heap[k]?)/\(w.setCells r xs.length news).heap.size=w.heap.size/\(w.setCells r xs.length news).os=w.os/\(w.setCells r xs.length news).tape=w.tape/\(w.setCells r xs.length news).output=w.output:=by
 obtain⟨o,n,e,m,l⟩:=L_ r news xs.length w _ _ _ h.2;refine⟨⟨by rw[ZA];exact f,?_⟩,l⟩;rw[n]
 congr 2
 have a:(xs.toArray++Yu (c - xs.length) TW).size=c:=by simp;omega
 apply Array.ext
 .rw[e,a];simp;omega
 intro i b j;have:=m i;rw[a]at this;have hi:i<c:=by rw[e,a]at b;exact b
 rw[<-Option.some_inj, <-Zx b, <-Zx j,this];by_cases d:xs.length<=i
 .by_cases g:i<xs.length+news.length
  .rw[if_pos ⟨d,g,hi⟩,zr (by simp;omega)]
   simp[Zbr d]
  rw[if_neg (by omega),Zan (by simp;omega),Zan (by simp;omega)];simp only[Array.getElem?_replicate];rw[if_pos (by simp;omega),if_pos (by simp;omega)]
 rw[if_neg (by omega),zr (by simp;omega),zr (by simp;omega)];simp[zl (show i<xs.length by omega)]
def OY (hi:∃i,P.info? 22=some i/\i.size=1)(ht:P.underlying 34=some (.slice 22))(ty:Zs)(h:Room w r c xs)(A:Option Addr)(m d:Nat)(hl:news.length=m)(b:xs.length+m<=c)
 (f:∀j u,news[j]?=some u->∃ad,A=some ad/\w.cell? (ad.add j)=some u) (o:∀u∈news,u.oneCell'=true):
  (Zao #[34,34] ty #[.slice (some ⟨r,0,none⟩) xs.length c,.slice A m d]).run P w=.ok (.slice (some ⟨r,0,none⟩) (xs.length+m) c) (w.setCells r xs.length news):=by
 obtain⟨i,hi,a⟩:=hi;subst hl;cases A with
 |none=>
  have:news=[]:=by
   cases news with
   |nil=>rfl
   |cons x l=>obtain⟨ad,h,_⟩:=f 0 x rfl;cases h
  subst this;simp[Zao,Y9 ht,sizeOf,typeInfo,hi,ZcX,Zu,h.1,ZbX,World.setCells]
 |some ad=>
  have k:=run_append_room_cells (P:=P) w 34 ty 22 i ht hi r 0 xs.length c ad news.length d news (by rw[a];omega) (λj u g=>by
   obtain⟨p,e,b⟩:=f j u g;cases e;exact b) o b (λj n=>by
    rw[a,h.cell,Zx (by simp;omega)]
    rfl) (λj n=>by
    unfold Yo;rw[h.2];simp)
  rw[k,a];simp
end
def afM:Tryz.t22.bytes=24:=by decide+kernel
def alr (n:Nat)(w:Zb)(b:0<n)(d:n<=1000000):
  Calls Lp 112 #[.slice none 0 0,.int .i64 n] w λe w'=>∃c,e=.returned (.slice (some ⟨w.heap.size,0,none⟩) 0 c)/\n<=c/\c<=maxLen/\Room w' w.heap.size c []/\YH w.heap.size w w':=by
 have l:¬281474976710656<Yx n 0*Tryz.t22.bytes:=by rw[afM,nextslicecap_zero b];omega
 have k:¬281474976710656<(n:Int)*(Tryz.t22.bytes:Int):=by rw[afM];omega
 have j:¬n=0:=by omega
 have h:decide ((0:Int)<(n:Int))=true:=by simpa using b
 go_enter Lp.func187,Tryz.ntmps112;go_wp2;go_ret;refine⟨_,rfl,?_,?_,?_,?_⟩
 .exact grownCap_ge w n 0 22
 .exact grownCap_le_maxLen w n 0 22 (by simp only[maxLen];omega)
 .refine⟨Zp _,?_⟩
  have a:=grownCap_ge w n 0 22;have e:((w.alloc (Zbi (Zt #[TW] n++Zt #[TW] ((zJ n 0 22).cut (w.tape w.drawn (zJ n 0 22)) - n)) 22)).drew).heap[w.heap.size]?=some (.cells (Zt #[TW] n++Zt #[TW] (grownCap w n 0 22 - n)) 22 (0,0)):=heap_alloc_new w _;rw[e,IM,IM]
  congr 2
  apply Array.ext
  .simp[grownCap]at a⊢;omega
  intro i g f;simp
 exact((Zh _ _).alloc (Zj _) _).drew
section
variable {P:Zo}
def GX (b:o.guard=none)(s x:Zbv)
 (z:o.op=.call {callee:=.builtin .append,args:= #[s,x],argTypes:= #[34,34]}) (hi:∃i,P.info? 22=some i/\i.size=1) (ht:P.underlying 34=some (.slice 22))
 (r c n:Nat) (xs:List Zf) (h:Room w r c xs) (C:n=xs.length) (y:a.eval s=.slice (some ⟨r,0,none⟩) n c) (A:Option Addr) (m e:Nat) (news:List Zf) (v:a.eval x=.slice A m e)
 (E:∀w',Room w' r c (xs++news)->(∀B,B<=r->YH B w w')->wpList P ops Q rest (a.put o.dst (.slice (some ⟨r,0,none⟩) (n+m) c)) w')
 (hl:news.length=m) (D:n+m<=c) (G:∀j u,news[j]?=some u->∃ad,A=some ad/\w.cell? (ad.add j)=some u) (F:∀u∈news,u.oneCell'=true):wpList P ops Q (o::rest) a w:=by
 subst C;refine wpList_plain b λ_ d=>?_;have H:=OY (P:=P) hi ht o.type h A m e hl D G F;obtain⟨t,q,p,l,g,f⟩:=h.put (news:=news) (by omega);unfold ZbA Zby;simp only[z,Zbh,invoke,builtin,zg,Sem.run_pure,Zaw,Zcr,List.map_cons,List.map_nil,y,v,H];exact d _ _ (E _ t λB J=>⟨l,g,f,ZcS p.symm,λk I=>q k (by omega)⟩)
end
def aak (wl:Zb)(xs:List Zf)(e:Ending)(w':Zb):Prop:=
 YH wl.heap.size wl w'/\(xs.length=0->e=.returned (.slice none 0 0))/\(0<xs.length->∃r c,e=.returned (.slice (some ⟨r,0,none⟩) xs.length c)/\wl.heap.size<=r/\c<=maxLen/\Room w' r c xs)
def KZ (w:Zb)(A:Option Addr)(xs:List Zf):Prop:=∀j u,xs[j]?=some u->∃ad,A=some ad/\ad.block<w.heap.size/\w.cell? (ad.add j)=some u
def KZ.below {A:Option Addr}(h:KZ w A xs)(b:YH w.heap.size w w'):∀j u,xs[j]?=some u->∃ad,A=some ad/\w'.cell? (ad.add j)=some u:=λj u a=>by
 obtain⟨ad,e,d,c⟩:=h j u a;exact⟨ad,e,by rw[b.cell (p:=ad.add j) (by rw[CF];exact d)];exact c⟩
def aal (d:wl.cell? ⟨K,0,none⟩=some (.slice A0 TV.length m0))(r:wl.cell? ⟨K,1,none⟩=some (.slice A1 UM.length m1))(v:KZ wl A0 TV)(x:KZ wl A1 UM)
 (q:∀u∈TV,u.oneCell'=true) (o:∀u∈UM,u.oneCell'=true) (E:TV.length+UM.length<=1000000) (hp:0<TV.length+UM.length):
  Calls Lp 79 #[.slice (some ⟨K,0,none⟩) 2 2] wl (aak wl (TV++UM)):=by
 have hi:∃i,Lp.info? 22=some i/\i.size=1:=by
  obtain⟨D,hi,_,h,_⟩:=zp Hw;exact⟨D,Dz hi,h⟩
 have F:∀W,Calls Lp 112 #[.slice none 0 0,.int .i64 ((TV.length:Int)+(UM.length:Int))] W λe w'=>∃c,e=.returned (.slice (some ⟨W.heap.size,0,none⟩) 0 c)/\TV.length+UM.length<=c/\c<=maxLen/\Room w' W.heap.size c []/\YH W.heap.size W w':=λW=>by
  have:=alr (TV.length+UM.length) W hp E;rwa[Int.natCast_add]at this
 have y:=Zd (ZY v x);have z:=Zd (ZY q o);clear v x q o;have a:K<wl.heap.size:=ZH wl _ d;go_enter Lp.func159,Tryz.ntmps79;go_wp2;refine Zbd 3 ?_;rw[YG];go_wp2;rw[YG];go_wp2;rw[YG];go_wp2_with (go_at_call 112;refine(F _).mono ?_;rintro e w1 ⟨c,rfl,I,H,n,b⟩);have C:w1.cell? ⟨K,0,none⟩=some (.slice A0 TV.length m0):=by rw[b.cell (p:=⟨K,0,none⟩) a];exact d
 have k1:w1.cell? ⟨K,1,none⟩=some (.slice A1 UM.length m1):=by rw[b.cell (p:=⟨K,1,none⟩) a];exact r
 have l:=Zd n;clear n d r;refine Zbd 3 ?_;rw[YG];go_wp2_with (at_builtin;refine GX (P:=Lp) (w:=w1) rfl (.tmp 31) (.tmp 32) rfl hi (Cz zW) wl.heap.size c 0 [] l.out rfl rfl A0 TV.length m0 TV rfl ?_ rfl (by omega) ?d1 z.out.1;intro w2 g A)
 case d1=>exact y.out.1.below b
 have f:=A wl.heap.size (Zj _);have s:YH wl.heap.size wl w2:=b.trans f;have B:w2.cell? ⟨K,1,none⟩=some (.slice A1 UM.length m1):=by rw[f.cell (p:=⟨K,1,none⟩) a];exact k1
 simp only[zP]at g;have k:=Zd g;clear g A f C k1;rw[YG];go_wp2_with (at_builtin;refine GX (P:=Lp) (w:=w2) rfl (.tmp 31) (.tmp 32) rfl hi (Cz zW) wl.heap.size c TV.length TV k.out rfl rfl A1 UM.length m1 UM rfl ?_ rfl (by omega) ?d2 z.out.2;intro w3 t m)
 case d2=>exact y.out.2.below s
 have G:YH wl.heap.size wl w3:=s.trans (m wl.heap.size (Zj _));have j:=Zd t;clear t m B;rw[YG];go_wp2;go_ret;refine⟨G,λh=>absurd h (by rw[ZA];omega),λ_=>⟨wl.heap.size,c,?_,Zj _,H,j.out⟩⟩;rw[ZA];rfl
def aam (w:Zb):Calls Lp 112 #[.slice none 0 0,.int .i64 0] w λe w'=>e=.returned (.slice none 0 0)/\w=w':=by
 go_enter Lp.func187,Tryz.ntmps112;go_wp2;go_ret;exact⟨rfl,rfl⟩
def aan (c:wl.cell? ⟨K,0,none⟩=some (.slice A0 0 m0))(b:wl.cell? ⟨K,1,none⟩=some (.slice A1 0 m1)):
  Calls Lp 79 #[.slice (some ⟨K,0,none⟩) 2 2] wl (aak wl []):=by
 obtain⟨a,hi,_,_,_⟩:=zp Hw;go_enter Lp.func159,Tryz.ntmps79;go_wp2;refine Zbd 3 ?_;rw[YG];go_wp2;rw[YG];go_wp2;rw[YG];go_wp2_with (go_at_call 112;refine(aam _).mono ?_;rintro e w1 ⟨rfl,rfl⟩);refine Zbd 3 ?_;rw[YG];go_wp2_with (at_builtin;refine EU (P:=Lp) (w:=wl) rfl (.tmp 31) (.tmp 32) 34 rfl 22 a (Cz zW) (Dz hi) rfl A0 m0 rfl ?_);rw[YG];go_wp2_with (at_builtin;refine EU (P:=Lp) (w:=wl) rfl (.tmp 31) (.tmp 32) 34 rfl 22 a (Cz zW) (Dz hi) rfl A1 m1 rfl ?_);rw[YG];go_wp2;go_ret;exact⟨Zh _ _,λ_=>rfl,λh=>absurd h (by simp)⟩
def als (b:wl.cell? ⟨K,0,none⟩=some (.slice A0 TV.length m0))(a:wl.cell? ⟨K,1,none⟩=some (.slice A1 UM.length m1))(i:KZ wl A0 TV)(j:KZ wl A1 UM)
 (d:∀u∈TV,u.oneCell'=true) (c:∀u∈UM,u.oneCell'=true) (e:TV.length+UM.length<=1000000):
  Calls Lp 79 #[.slice (some ⟨K,0,none⟩) 2 2] wl (aak wl (TV++UM)):=by
 by_cases f:0<TV.length+UM.length
 .exact aal b a i j d c e f
 have h:TV=[]:=YM (by omega);have g:UM=[]:=YM (by omega);subst h g;exact aan b a
def OZ (e t:Zf)(w:Zb)(b:(((zJ 1 0 3).cut (w.tape w.drawn (.appendCap 1 0 3)):Int)==1)=true):
  Calls Lp 57 #[e,t] w λe' w'=>e'=.panicked [{v:=Wd #[e,t,MD w.heap.size],recovered:=false}]/\YH w.heap.size w w':=by
 have a:=t3b;go_enter Lp.func91,OX;go_wp2;refine⟨rfl,rfl,?_⟩;exact(((Zh _ _).alloc (Zj _) _).alloc (by simp) _).drew
def gO (t:Zf)(w:Zb)(b:(((zJ 1 0 3).cut (w.tape w.drawn (.appendCap 1 0 3)):Int)==1)=false):
  Calls Lp 57 #[.nilIface,t] w λe' w'=>e'=.returned (.bool false)/\YH w.heap.size w w':=by
 have a:=t3b;go_enter Lp.func91,OX;go_wp2;go_ret;exact⟨rfl,(((Zh _ _).alloc (Zj _) _).alloc (by simp) _).drew⟩
def aao (n:Int)(w:Zb):(Zbt (.iface 116 (.agg #[.int .i64 n])) 112 116 false).run Lp w=.ok (.agg #[.int .i64 n]) w:=by kernel_rfl
def aap (a:Addr)(w:Zb):(Zbt (.iface 118 (.pointer (some a))) 20 118 false).run Lp w=.ok (.pointer (some a)) w:=by kernel_rfl
def gP (n m:Int)(t:Nat)(w:Zb)(f:(((zJ 1 0 3).cut (w.tape w.drawn (.appendCap 1 0 3)):Int)==1)=false)(ht:w.heap[t]?=some (.cells #[.int .i64 m] 116 (0,0))):
  Calls Lp 57 #[.iface 116 (.agg #[.int .i64 n]),.iface 118 (.pointer (some ⟨t,0,none⟩))] w λe' w'=>e'=.returned (.bool true)/\YH w.heap.size (w.setCell ⟨t,0,none⟩ (.int .i64 n)) w':=by
 have e:=t3b;have b:=aao;have a:=aap;have g:t<w.heap.size:=(Za.1 ht).1;have d:w.cell? ⟨t,0,none⟩=some (.int .i64 m):=by unfold zy;rw[ht];rfl
 have c:w.frozen? ⟨t,0,none⟩=false:=by unfold Yo;rw[ht];simp
 clear ht;go_enter Lp.func91,OX;go_wp2;go_ret;exact⟨rfl,(((Zh _ _).alloc (by simp) _).alloc (by simp) _).drew⟩
end Go.Proofs.Fit
