/- Part of a proof. -/
import Derived.Test.YtdhgoldgnnpnmaaGreatDoorQ03
import Derived.ProofKit
import Derived.WalkKit
import Derived.Lib.Hide
import Derived.Deep.AppendLies
set_option maxRecDepth 100000
set_option maxHeartbeats 6400000
noncomputable section
set_option linter.all false
open And renaming intro->ZY
open Array renaming getElem?_eq_some_iff->Za,getElem?_modify->Y7,getElem?_setIfInBounds_ne->Zk,getElem?_setIfInBounds_self_of_lt->ZV,getElem?_eq_none->YR,replicate->Yu,getElem?_eq_getElem->Zx,getElem?_append_left->zr,getElem?_append_right->Zan
open Go renaming Program->Zo,TypeId->Zs,World->Zb,FuncId->ZaQ,Value->Zf,callFunc->Zz,Operand->Zbv,execOp->Zby,resolve->Zbh,wpList_append_own->Yc,info_parts->zp,run_underlying->Y9,wp_loop_rounds->Zbd,rounds_succ->YG,storeCells->ZbX
open Go.Addr renaming add->Zcu
open Go.Builtin renaming zeroCells->Zt,nextslicecap->Yx,append_->Zao,lenOf->ZcX,firstCells->Zu
open Go.Exit renaming inBlock->ZdC
open Go.Instr renaming typeAssert->Zbt
open Go.Lib renaming hid->Zd
open Go.Obj renaming cells->Zbi
open Go.Oper renaming wp->ZbA
open Go.Program renaming underlying->ZbU,cellsOf->Zco
open Go.Proofs.Tryz renaming prog->Zc,underlying33->zW,f57->Za7
open Go.Question renaming appendCap->zJ
open Go.Result renaming andThen_ok->Zaw
open Go.RowKit renaming Below->YH,intOf->ZdE
open Go.RowKit.Below renaming refl->Zh,heap_setCell->Y4
open Go.Sem renaming run_bind->zg
open Go.Value renaming oneCell'->YT
open Go.World renaming ownsRow_nil->zq,block_lt_of_cell?->ZH,setCell->Z8,frozen?->Yo,cell?->zy
open List renaming map_toArray->Zcr,range'->Zcq,filter_append->ZcW,map_append->Zai,length_filter_le->Zac,length_cons->zb,getElem?_cons_succ->ZD,length_append->ZA,getElem?_append_right->Zbr,getElem?_append_left->zl,nil_append->zP,eq_nil_of_length_eq_zero->YM
open Nat renaming le_refl->Zj,lt_of_lt_of_le->Zl,le_trans->Zr,zero_le->Zp,add_assoc->ZbZ,le_of_eq->ZcS
open Option renaming getD_some->Zw
namespace Go.Proofs.Fit
open Go
def Lp:Zo:=oB Qg
def Jf:Lp.toTables=Tryz.prog.toTables:=rfl
@[simp] def oC (t:Zs):Lp.underlying t=Tryz.prog.underlying t:=by unfold ZbU;rw[Jf]
@[simp] def gK (t:Zs):Lp.info? t=Tryz.prog.info? t:=by rw[Jf]
@[simp] def afG (t:Zs):Lp.cellsOf t=Tryz.prog.cellsOf t:=by unfold Zco;rw[Jf]
@[simp] def afH (t:Zs):Lp.bytesOf t=Tryz.prog.bytesOf t:=by unfold Program.bytesOf;rw[Jf]
def oD:Lp.depth=Tryz.prog.depth:=by unfold Program.depth;rw[Jf]
def gL (Q:Zo)(t:Zs)(w:Zb):(underlying t).run Q w=match Q.underlying t with|some d=>.ok d w|none=>.halt (.stuck "no such type") w:=by
 show(match Q.underlying t with|some d=>pure d|none=>stuck "no such type" :Sem TypeDesc).run Q w=_;cases Q.underlying t<;>rfl
def aH (Q:Zo)(t:Zs)(w:Zb):(typeInfo t).run Q w=match Q.info? t with|some d=>.ok d w|none=>.halt (.stuck "no such type") w:=by
 show(match Q.info? t with|some d=>pure d|none=>stuck "no such type" :Sem TypeInfo).run Q w=_;cases Q.info? t<;>rfl
@[simp] def OW (t:Zs)(w:Zb):(underlying t).run Lp w=(underlying t).run Zc w:=by rw[gL,gL,oC]
@[simp] def PD (t:Zs)(w:Zb):(typeInfo t).run Lp w=(typeInfo t).run Zc w:=by rw[aH,aH,gK]
@[simp] def adb (t:Zs)(w:Zb):(sizeOf t).run Lp w=(sizeOf t).run Zc w:=by
 have h:∀Q,(sizeOf t).run Q w=((typeInfo t).run Q w).andThen fun i w=>.ok i.size w:=fun Q=>by
  unfold sizeOf;rw[zg];rfl
 rw[h,h,PD]
@[simp] def afI (t:Zs)(w:Zb):(isAgg t).run Lp w=(isAgg t).run Zc w:=by
 have h:∀Q,(isAgg t).run Q w=((underlying t).run Q w).andThen fun d w=>.ok (match d with| .struct _| .array _ _=>true|_=>false) w:=fun Q=>by
  unfold isAgg;rw[zg]
  congr 1
  funext d w
  cases d<;>rfl
 rw[h,h,OW]
@[simp] def tC (t:Zs)(w:Zb):(zeroValue t).run Lp w=(zeroValue t).run Zc w:=by
 have h:∀Q,(zeroValue t).run Q w=((typeInfo t).run Q w).andThen fun i w=>match i.zero with|some v=>.ok v w|none=>.halt (.unsupported (.resourceLimit "a value of more than 2^22 cells")) w:=fun Q=>by
  unfold zeroValue;rw[zg]
  congr 1
  funext i w
  cases i.zero<;>rfl
 rw[h,h,PD]
def Ao (Q:Zo)(f:ZaQ){fn:Func}(h:Q.funcs[f]?=some fn)(hn:(fn.name== "runtime.NumGoroutine")=false)(hb:fn.body.isSome=true)(args:Array Zf)(w:Zb):(Zz f args).run Q w=.ok (.enter f args) w:=by
 have G1:fn.body.isNone=false:=by cases hx:fn.body<;>simp_all
 show(match Q.funcs[f]? with
  |none=>stuck "call: no such function"
  |some fn=>if fn.name== "runtime.NumGoroutine" then pure .numGoroutine else if fn.body.isNone then _ else pure (.enter f args):Sem Next).run Q w=_
 rw[h];dsimp only;rw[hn,G1]
 rfl
@[simp] def Lp.func26:Lp.funcs[12]?=some Tryz.f12:=(AP.same 12 rfl rfl).trans Tryz.func12
@[simp] def Lp.call26 (args:Array Zf)(w:Zb):(Zz 12 args).run Lp w=.ok (.enter 12 args) w:=Ao Lp 12 Lp.func26 rfl rfl args w
@[simp] def Lp.func27:Lp.funcs[4]?=some Tryz.f4:=(AP.same 4 rfl rfl).trans Tryz.func4
@[simp] def Lp.func29:Lp.funcs[13]?=some Tryz.f13:=(AP.same 13 rfl rfl).trans Tryz.func13
@[simp] def Lp.call29 (args:Array Zf)(w:Zb):(Zz 13 args).run Lp w=.ok (.enter 13 args) w:=Ao Lp 13 Lp.func29 rfl rfl args w
@[simp] def Lp.func30:Lp.funcs[18]?=some Tryz.f18:=(AP.same 18 rfl rfl).trans Tryz.func18
@[simp] def Lp.call30 (args:Array Zf)(w:Zb):(Zz 18 args).run Lp w=.ok (.enter 18 args) w:=Ao Lp 18 Lp.func30 rfl rfl args w
@[simp] def Lp.func32:Lp.funcs[47]?=some Tryz.f47:=(AP.same 47 rfl rfl).trans Tryz.func47
@[simp] def Lp.call32 (args:Array Zf)(w:Zb):(Zz 47 args).run Lp w=.ok (.enter 47 args) w:=Ao Lp 47 Lp.func32 rfl rfl args w
@[simp] def Lp.func33:Lp.funcs[45]?=some Tryz.f45:=(AP.same 45 rfl rfl).trans Tryz.func45
@[simp] def Lp.call33 (args:Array Zf)(w:Zb):(Zz 45 args).run Lp w=.ok (.enter 45 args) w:=Ao Lp 45 Lp.func33 rfl rfl args w
@[simp] def Lp.func34:Lp.funcs[43]?=some Tryz.f43:=(AP.same 43 rfl rfl).trans Tryz.func43
@[simp] def Lp.call34 (args:Array Zf)(w:Zb):(Zz 43 args).run Lp w=.ok (.enter 43 args) w:=Ao Lp 43 Lp.func34 rfl rfl args w
@[simp] def Lp.func37:Lp.funcs[10]?=some Tryz.f10:=(AP.same 10 rfl rfl).trans Tryz.func10
@[simp] def Lp.call37 (args:Array Zf)(w:Zb):(Zz 10 args).run Lp w=.ok (.enter 10 args) w:=Ao Lp 10 Lp.func37 rfl rfl args w
@[simp] def Lp.func40:Lp.funcs[72]?=some Tryz.f72:=(AP.same 72 rfl rfl).trans Tryz.func72
@[simp] def Lp.call40 (args:Array Zf)(w:Zb):(Zz 72 args).run Lp w=.ok (.enter 72 args) w:=Ao Lp 72 Lp.func40 rfl rfl args w
@[simp] def Lp.func41:Lp.funcs[8]?=some Tryz.f8:=(AP.same 8 rfl rfl).trans Tryz.func8
@[simp] def Lp.call41 (args:Array Zf)(w:Zb):(Zz 8 args).run Lp w=.ok (.enter 8 args) w:=Ao Lp 8 Lp.func41 rfl rfl args w
@[simp] def Lp.func44:Lp.funcs[5]?=some Tryz.f5:=(AP.same 5 rfl rfl).trans Tryz.func5
@[simp] def Lp.call44 (args:Array Zf)(w:Zb):(Zz 5 args).run Lp w=.ok (.enter 5 args) w:=Ao Lp 5 Lp.func44 rfl rfl args w
@[simp] def Lp.func45:Lp.funcs[38]?=some Tryz.f38:=(AP.same 38 rfl rfl).trans Tryz.func38
@[simp] def Lp.call45 (args:Array Zf)(w:Zb):(Zz 38 args).run Lp w=.ok (.enter 38 args) w:=Ao Lp 38 Lp.func45 rfl rfl args w
@[simp] def Lp.func46:Lp.funcs[31]?=some Tryz.f31:=(AP.same 31 rfl rfl).trans Tryz.func31
@[simp] def Lp.call46 (args:Array Zf)(w:Zb):(Zz 31 args).run Lp w=.ok (.enter 31 args) w:=Ao Lp 31 Lp.func46 rfl rfl args w
@[simp] def Lp.func54:Lp.funcs[41]?=some Tryz.f41:=(AP.same 41 rfl rfl).trans Tryz.func41
@[simp] def Lp.call54 (args:Array Zf)(w:Zb):(Zz 41 args).run Lp w=.ok (.enter 41 args) w:=Ao Lp 41 Lp.func54 rfl rfl args w
@[simp] def Lp.func61:Lp.funcs[6]?=some Tryz.f6:=(AP.same 6 rfl rfl).trans Tryz.func6
@[simp] def Lp.call61 (args:Array Zf)(w:Zb):(Zz 6 args).run Lp w=.ok (.enter 6 args) w:=Ao Lp 6 Lp.func61 rfl rfl args w
@[simp] def Lp.func62:Lp.funcs[39]?=some Tryz.f39:=(AP.same 39 rfl rfl).trans Tryz.func39
@[simp] def Lp.call62 (args:Array Zf)(w:Zb):(Zz 39 args).run Lp w=.ok (.enter 39 args) w:=Ao Lp 39 Lp.func62 rfl rfl args w
@[simp] def Lp.func69:Lp.funcs[42]?=some Tryz.f42:=(AP.same 42 rfl rfl).trans Tryz.func42
@[simp] def Lp.call69 (args:Array Zf)(w:Zb):(Zz 42 args).run Lp w=.ok (.enter 42 args) w:=Ao Lp 42 Lp.func69 rfl rfl args w
@[simp] def Lp.func84:Lp.funcs[37]?=some Tryz.f37:=(AP.same 37 rfl rfl).trans Tryz.func37
@[simp] def Lp.call84 (args:Array Zf)(w:Zb):(Zz 37 args).run Lp w=.ok (.enter 37 args) w:=Ao Lp 37 Lp.func84 rfl rfl args w
@[simp] def Lp.func85:Lp.funcs[40]?=some Tryz.f40:=(AP.same 40 rfl rfl).trans Tryz.func40
@[simp] def Lp.call85 (args:Array Zf)(w:Zb):(Zz 40 args).run Lp w=.ok (.enter 40 args) w:=Ao Lp 40 Lp.func85 rfl rfl args w
@[simp] def Lp.func86:Lp.funcs[46]?=some Tryz.f46:=(AP.same 46 rfl rfl).trans Tryz.func46
@[simp] def Lp.call86 (args:Array Zf)(w:Zb):(Zz 46 args).run Lp w=.ok (.enter 46 args) w:=Ao Lp 46 Lp.func86 rfl rfl args w
@[simp] def Lp.func87:Lp.funcs[44]?=some Tryz.f44:=(AP.same 44 rfl rfl).trans Tryz.func44
@[simp] def Lp.call87 (args:Array Zf)(w:Zb):(Zz 44 args).run Lp w=.ok (.enter 44 args) w:=Ao Lp 44 Lp.func87 rfl rfl args w
@[simp] def Lp.func88:Lp.funcs[20]?=some Tryz.f20:=(AP.same 20 rfl rfl).trans Tryz.func20
@[simp] def Lp.call88 (args:Array Zf)(w:Zb):(Zz 20 args).run Lp w=.ok (.enter 20 args) w:=Ao Lp 20 Lp.func88 rfl rfl args w
@[simp] def Lp.func89:Lp.funcs[51]?=some Tryz.f51:=(AP.same 51 rfl rfl).trans Tryz.func51
@[simp] def Lp.call89 (args:Array Zf)(w:Zb):(Zz 51 args).run Lp w=.ok (.enter 51 args) w:=Ao Lp 51 Lp.func89 rfl rfl args w
@[simp] def Lp.func90:Lp.funcs[62]?=some Tryz.f62:=(AP.same 62 rfl rfl).trans Tryz.func62
@[simp] def Lp.call90 (args:Array Zf)(w:Zb):(Zz 62 args).run Lp w=.ok (.enter 62 args) w:=Ao Lp 62 Lp.func90 rfl rfl args w
@[simp] def Lp.func92:Lp.funcs[63]?=some Tryz.f63:=(AP.same 63 rfl rfl).trans Tryz.func63
@[simp] def Lp.call92 (args:Array Zf)(w:Zb):(Zz 63 args).run Lp w=.ok (.enter 63 args) w:=Ao Lp 63 Lp.func92 rfl rfl args w
@[simp] def Lp.func98:Lp.funcs[14]?=some Tryz.f14:=(AP.same 14 rfl rfl).trans Tryz.func14
@[simp] def Lp.call98 (args:Array Zf)(w:Zb):(Zz 14 args).run Lp w=.ok (.enter 14 args) w:=Ao Lp 14 Lp.func98 rfl rfl args w
@[simp] def Lp.func99:Lp.funcs[16]?=some Tryz.f16:=(AP.same 16 rfl rfl).trans Tryz.func16
@[simp] def Lp.call99 (args:Array Zf)(w:Zb):(Zz 16 args).run Lp w=.ok (.enter 16 args) w:=Ao Lp 16 Lp.func99 rfl rfl args w
@[simp] def Lp.func100:Lp.funcs[21]?=some Tryz.f21:=(AP.same 21 rfl rfl).trans Tryz.func21
@[simp] def Lp.call100 (args:Array Zf)(w:Zb):(Zz 21 args).run Lp w=.ok (.enter 21 args) w:=Ao Lp 21 Lp.func100 rfl rfl args w
@[simp] def Lp.func101:Lp.funcs[22]?=some Tryz.f22:=(AP.same 22 rfl rfl).trans Tryz.func22
@[simp] def Lp.call101 (args:Array Zf)(w:Zb):(Zz 22 args).run Lp w=.ok (.enter 22 args) w:=Ao Lp 22 Lp.func101 rfl rfl args w
@[simp] def Lp.func102:Lp.funcs[23]?=some Tryz.f23:=(AP.same 23 rfl rfl).trans Tryz.func23
@[simp] def Lp.call102 (args:Array Zf)(w:Zb):(Zz 23 args).run Lp w=.ok (.enter 23 args) w:=Ao Lp 23 Lp.func102 rfl rfl args w
@[simp] def Lp.func103:Lp.funcs[24]?=some Tryz.f24:=(AP.same 24 rfl rfl).trans Tryz.func24
@[simp] def Lp.call103 (args:Array Zf)(w:Zb):(Zz 24 args).run Lp w=.ok (.enter 24 args) w:=Ao Lp 24 Lp.func103 rfl rfl args w
@[simp] def Lp.func105:Lp.funcs[26]?=some Tryz.f26:=(AP.same 26 rfl rfl).trans Tryz.func26
@[simp] def Lp.call105 (args:Array Zf)(w:Zb):(Zz 26 args).run Lp w=.ok (.enter 26 args) w:=Ao Lp 26 Lp.func105 rfl rfl args w
@[simp] def Lp.func106:Lp.funcs[27]?=some Tryz.f27:=(AP.same 27 rfl rfl).trans Tryz.func27
@[simp] def Lp.call106 (args:Array Zf)(w:Zb):(Zz 27 args).run Lp w=.ok (.enter 27 args) w:=Ao Lp 27 Lp.func106 rfl rfl args w
@[simp] def Lp.func110:Lp.funcs[15]?=some Tryz.f15:=(AP.same 15 rfl rfl).trans Tryz.func15
@[simp] def Lp.call110 (args:Array Zf)(w:Zb):(Zz 15 args).run Lp w=.ok (.enter 15 args) w:=Ao Lp 15 Lp.func110 rfl rfl args w
@[simp] def Lp.func111:Lp.funcs[17]?=some Tryz.f17:=(AP.same 17 rfl rfl).trans Tryz.func17
@[simp] def Lp.call111 (args:Array Zf)(w:Zb):(Zz 17 args).run Lp w=.ok (.enter 17 args) w:=Ao Lp 17 Lp.func111 rfl rfl args w
@[simp] def Lp.func112:Lp.funcs[68]?=some Tryz.f68:=(AP.same 68 rfl rfl).trans Tryz.func68
@[simp] def Lp.call112 (args:Array Zf)(w:Zb):(Zz 68 args).run Lp w=.ok (.enter 68 args) w:=Ao Lp 68 Lp.func112 rfl rfl args w
@[simp] def Lp.func113:Lp.funcs[69]?=some Tryz.f69:=(AP.same 69 rfl rfl).trans Tryz.func69
@[simp] def Lp.call113 (args:Array Zf)(w:Zb):(Zz 69 args).run Lp w=.ok (.enter 69 args) w:=Ao Lp 69 Lp.func113 rfl rfl args w
@[simp] def Lp.func119:Lp.funcs[64]?=some Tryz.f64:=(AP.same 64 rfl rfl).trans Tryz.func64
@[simp] def Lp.call119 (args:Array Zf)(w:Zb):(Zz 64 args).run Lp w=.ok (.enter 64 args) w:=Ao Lp 64 Lp.func119 rfl rfl args w
@[simp] def Lp.func120:Lp.funcs[65]?=some Tryz.f65:=(AP.same 65 rfl rfl).trans Tryz.func65
@[simp] def Lp.call120 (args:Array Zf)(w:Zb):(Zz 65 args).run Lp w=.ok (.enter 65 args) w:=Ao Lp 65 Lp.func120 rfl rfl args w
@[simp] def Lp.func122:Lp.funcs[70]?=some Tryz.f70:=(AP.same 70 rfl rfl).trans Tryz.func70
@[simp] def Lp.call122 (args:Array Zf)(w:Zb):(Zz 70 args).run Lp w=.ok (.enter 70 args) w:=Ao Lp 70 Lp.func122 rfl rfl args w
@[simp] def Lp.func123:Lp.funcs[67]?=some Tryz.f67:=(AP.same 67 rfl rfl).trans Tryz.func67
@[simp] def Lp.call123 (args:Array Zf)(w:Zb):(Zz 67 args).run Lp w=.ok (.enter 67 args) w:=Ao Lp 67 Lp.func123 rfl rfl args w
@[simp] def Lp.func126:Lp.funcs[59]?=some Tryz.f59:=(AP.same 59 rfl rfl).trans Tryz.func59
@[simp] def Lp.call126 (args:Array Zf)(w:Zb):(Zz 59 args).run Lp w=.ok (.enter 59 args) w:=Ao Lp 59 Lp.func126 rfl rfl args w
@[simp] def Lp.func134:Lp.funcs[73]?=some Tryz.f73:=(AP.same 73 rfl rfl).trans Tryz.func73
@[simp] def Lp.call134 (args:Array Zf)(w:Zb):(Zz 73 args).run Lp w=.ok (.enter 73 args) w:=Ao Lp 73 Lp.func134 rfl rfl args w
@[simp] def Lp.func136:Lp.funcs[32]?=some Tryz.f32:=(AP.same 32 rfl rfl).trans Tryz.func32
@[simp] def Lp.call136 (args:Array Zf)(w:Zb):(Zz 32 args).run Lp w=.ok (.enter 32 args) w:=Ao Lp 32 Lp.func136 rfl rfl args w
@[simp] def Lp.func139:Lp.funcs[36]?=some Tryz.f36:=(AP.same 36 rfl rfl).trans Tryz.func36
@[simp] def Lp.call139 (args:Array Zf)(w:Zb):(Zz 36 args).run Lp w=.ok (.enter 36 args) w:=Ao Lp 36 Lp.func139 rfl rfl args w
@[simp] def Lp.func143:Lp.funcs[48]?=some Tryz.f48:=(AP.same 48 rfl rfl).trans Tryz.func48
@[simp] def Lp.call143 (args:Array Zf)(w:Zb):(Zz 48 args).run Lp w=.ok (.enter 48 args) w:=Ao Lp 48 Lp.func143 rfl rfl args w
@[simp] def Lp.func144:Lp.funcs[49]?=some Tryz.f49:=(AP.same 49 rfl rfl).trans Tryz.func49
@[simp] def Lp.call144 (args:Array Zf)(w:Zb):(Zz 49 args).run Lp w=.ok (.enter 49 args) w:=Ao Lp 49 Lp.func144 rfl rfl args w
@[simp] def Lp.func145:Lp.funcs[50]?=some Tryz.f50:=(AP.same 50 rfl rfl).trans Tryz.func50
@[simp] def Lp.call145 (args:Array Zf)(w:Zb):(Zz 50 args).run Lp w=.ok (.enter 50 args) w:=Ao Lp 50 Lp.func145 rfl rfl args w
@[simp] def Lp.func150:Lp.funcs[94]?=some Tryz.f94:=(AP.same 94 rfl rfl).trans Tryz.func94
@[simp] def Lp.call150 (args:Array Zf)(w:Zb):(Zz 94 args).run Lp w=.ok (.enter 94 args) w:=Ao Lp 94 Lp.func150 rfl rfl args w
@[simp] def Lp.func151:Lp.funcs[52]?=some Tryz.f52:=(AP.same 52 rfl rfl).trans Tryz.func52
@[simp] def Lp.call151 (args:Array Zf)(w:Zb):(Zz 52 args).run Lp w=.ok (.enter 52 args) w:=Ao Lp 52 Lp.func151 rfl rfl args w
@[simp] def Lp.func152:Lp.funcs[53]?=some Tryz.f53:=(AP.same 53 rfl rfl).trans Tryz.func53
@[simp] def Lp.call152 (args:Array Zf)(w:Zb):(Zz 53 args).run Lp w=.ok (.enter 53 args) w:=Ao Lp 53 Lp.func152 rfl rfl args w
@[simp] def Lp.func153:Lp.funcs[54]?=some Tryz.f54:=(AP.same 54 rfl rfl).trans Tryz.func54
@[simp] def Lp.func154:Lp.funcs[55]?=some Tryz.f55:=(AP.same 55 rfl rfl).trans Tryz.func55
@[simp] def Lp.call154 (args:Array Zf)(w:Zb):(Zz 55 args).run Lp w=.ok (.enter 55 args) w:=Ao Lp 55 Lp.func154 rfl rfl args w
@[simp] def Lp.func159:Lp.funcs[61]?=some Tryz.f61:=(AP.same 61 rfl rfl).trans Tryz.func61
@[simp] def Lp.func161:Lp.funcs[87]?=some Tryz.f87:=(AP.same 87 rfl rfl).trans Tryz.func87
@[simp] def Lp.call161 (args:Array Zf)(w:Zb):(Zz 87 args).run Lp w=.ok (.enter 87 args) w:=Ao Lp 87 Lp.func161 rfl rfl args w
@[simp] def Lp.func162:Lp.funcs[66]?=some Tryz.f66:=(AP.same 66 rfl rfl).trans Tryz.func66
@[simp] def Lp.call162 (args:Array Zf)(w:Zb):(Zz 66 args).run Lp w=.ok (.enter 66 args) w:=Ao Lp 66 Lp.func162 rfl rfl args w
@[simp] def Lp.func166:Lp.funcs[104]?=some Tryz.f104:=(AP.same 104 rfl rfl).trans Tryz.func104
@[simp] def Lp.call166 (args:Array Zf)(w:Zb):(Zz 104 args).run Lp w=.ok (.enter 104 args) w:=Ao Lp 104 Lp.func166 rfl rfl args w
@[simp] def Lp.func167:Lp.funcs[105]?=some Tryz.f105:=(AP.same 105 rfl rfl).trans Tryz.func105
@[simp] def Lp.call167 (args:Array Zf)(w:Zb):(Zz 105 args).run Lp w=.ok (.enter 105 args) w:=Ao Lp 105 Lp.func167 rfl rfl args w
@[simp] def Lp.func168:Lp.funcs[106]?=some Tryz.f106:=(AP.same 106 rfl rfl).trans Tryz.func106
@[simp] def Lp.call168 (args:Array Zf)(w:Zb):(Zz 106 args).run Lp w=.ok (.enter 106 args) w:=Ao Lp 106 Lp.func168 rfl rfl args w
@[simp] def Lp.func187:Lp.funcs[93]?=some Tryz.f93:=(AP.same 93 rfl rfl).trans Tryz.func93
@[simp] def Lp.call187 (args:Array Zf)(w:Zb):(Zz 93 args).run Lp w=.ok (.enter 93 args) w:=Ao Lp 93 Lp.func187 rfl rfl args w
@[simp] def Lp.func91:Lp.funcs[71]?=some Qg:=NG (by rw[FT];decide)
@[simp] def Lp.call91 (args:Array Zf)(w:Zb):(Zz 71 args).run Lp w=.ok (.enter 71 args) w:=Ao Lp 71 Lp.func91 (by decide) rfl args w
@[simp] def Lp.func104:Lp.funcs[25]?=some Kj:=L8 (by rw[FT];decide)
@[simp] def Lp.call104 (args:Array Zf)(w:Zb):(Zz 25 args).run Lp w=.ok (.enter 25 args) w:=Ao Lp 25 Lp.func104 (by decide) rfl args w
@[simp] def Lp.func155:Lp.funcs[56]?=some MA:=TU (by rw[FT];decide)
@[simp] def Lp.call155 (args:Array Zf)(w:Zb):(Zz 56 args).run Lp w=.ok (.enter 56 args) w:=Ao Lp 56 Lp.func155 (by decide) rfl args w
@[simp] def Lp.func156:Lp.funcs[57]?=some Mz:=L9 (by rw[FT];decide)
variable {t:Zs}
def Cz {d:TypeDesc}(h:Tryz.prog.underlying t=some d):Lp.underlying t=some d:=(oC t).trans h
def Dz {i:TypeInfo}(h:Tryz.prog.info? t=some i):Lp.info? t=some i:=(gK t).trans h
end Go.Proofs.Fit
namespace Go.Proofs.Fit
open Go Go.RowKit
def KY:(Tryz.prog.info? 3).map (fun i=>(i.zero,i.size,i.bytes))=some (some (.int .i64 0),1,8):=by kernel_rfl
def Hw:(Tryz.prog.info? 22).map (fun i=>(i.zero,i.size,i.bytes))=some (some (.slice none 0 0),1,24):=by kernel_rfl
def MB:Kj.ntmps=14:=rfl
def OX:Qg.ntmps=14:=rfl
def dG:MA.ntmps=13:=rfl
def MC:Mz.ntmps=40:=rfl
def Wd (cap:Array Zf):Zf:=.iface 1 (.func (.func 57) #[] cap)
def MD (b:Nat):Zf:=.slice (some ⟨b,0,none⟩) 1 1
section
variable {P:Zo}
variable {w w' W w₁ wl:Zb}
variable {ops:Array Oper}
variable {rest:List Oper}
variable {o:Oper}
variable {a:Act}
variable {Q:Exit->Act->Zb->Prop}
def NH (hgd:o.guard=none)(s x:Zbv)(t:Zs)
 (ho:o.op=.call {callee:=.builtin .append,args:= #[s,x],argTypes:= #[t,t]})
 (e:Zs) (i:TypeInfo) (z:Zf) (ht:P.underlying t=some (.slice e)) (hi:P.info? e=some i) (hz:i.zero=some z)
 (hs:a.eval s=.slice none 0 0) (ad:Addr) (n c:Nat) (news:List Zf) (hx:a.eval x=.slice (some ad) n c) (hl:news.length=n*i.size) (NI:∀j v,news[j]?=some v->w.cell? (ad.add j)=some v)
 (h0:0<n) (h63:(n:Int)<=9223372036854775807) (h48:n*i.bytes<=281474976710656)
 (h:wpList P ops Q rest (a.put o.dst (.slice (some ⟨w.heap.size,0,none⟩) n (grownCap w n 0 e))) (w.drew.alloc (.cells (news.toArray++Zt z.cells (grownCap w n 0 e - n)) e))):wpList P ops Q (o::rest) a w:=by
 refine wpList_plain hgd fun _ hK=>?_;have By:=run_append_nil (P:=P) w t o.type e i z ht hi hz ad n c news hl NI h0 h63 h48;unfold ZbA Zby;simp only[ho,Zbh,invoke,builtin,zg,Sem.run_pure,Zaw,Zcr,List.map_cons,List.map_nil,hs,hx,By];exact hK _ _ h
end
@[simp] def run_panic_iface (Q:Zo)(t:Zs)(v:Zf)(w:Zb):(Instr.panic (.iface t v)).run Q w=.halt (.panic (.iface t v)) w:=rfl
def t3b:¬281474976710656<Yx 1 0*Tryz.t3.bytes:=by decide+kernel
def Sf (g l s:Zf)(w:Zb)(h1:(((zJ 1 0 3).cut (w.tape w.drawn (.appendCap 1 0 3)):Int)==1)=true):
  Calls Lp 25 #[g,l,s] w fun e w'=>e=.panicked [{v:=Wd #[g,l,s,MD w.heap.size],recovered:=false}]/\YH w.heap.size w w':=by
 have hb:=t3b;go_enter Lp.func104,MB;go_wp2;refine⟨rfl,rfl,?_⟩;exact(((Zh _ _).alloc (Zj _) _).alloc (by simp) _).drew
variable {w w' W w₁ wl:Zb}
variable {xs news TV UM:List Zf}
def G_ {base:Nat}{e:Zs}{size:Nat}{v:Zf}{n:Nat}(h:w.ownsRow base e size v n xs)(hb:YH w.heap.size w w'):w'.ownsRow base e size v n xs:=
 h.kept (row:=none) ⟨hb.os,hb.tape,hb.output,hb.size,fun k hk _=>hb.block k hk⟩ (by cases hv:v.ownBlock<;>simp)
def aI {base:Nat}{row:Option Nat}(hg:w.grownBy w' row)(hb:base<=w.heap.size)(hr:∀k,row=some k->base<=k):YH base w w':=
 ⟨hg.os,hg.tape,hg.output,hg.size,fun k hk=>hg.block k (by omega) fun e=>by have:=hr k e.symm;omega⟩
def oE (w:Zb)(news:List Zf)(e:Zs):∀j u,news[j]?=some u->(w.alloc (.cells news.toArray e)).cell? ((⟨w.heap.size,0,none⟩:Addr).add j)=some u:=by
 intro j u hu;have aln:(⟨w.heap.size,0,none⟩:Addr).add j=⟨w.heap.size,j,none⟩:=by unfold Zcu;split<;>simp_all
 rw[aln,World.cell?_alloc_at _ _ _ _ rfl];simpa using hu
section
variable {P:Zo}
variable {ops:Array Oper}
variable {rest:List Oper}
variable {o:Oper}
variable {a:Act}
variable {Q:Exit->Act->Zb->Prop}
def GN (hgd:o.guard=none)(s x:Zbv)(t:Zs)
 (ho:o.op=.call {callee:=.builtin .append,args:= #[s,x],argTypes:= #[t,t]})
 (base:Nat) (e:Zs) (i:TypeInfo) (z:Zf) (size bytes:Nat) (ht:P.underlying t=some (.slice e)) (hi:P.info? e=some i) (hz:i.zero=some z)
 (afK:i.size=size) (hby:i.bytes=bytes) (hzs:z.cells.size=size) (D':0<size)
 (v:Zf) (n:Nat) (xs:List Zf) (hs:a.eval s=v) (AX:W.ownsRow base e size v n xs)
 (ad:Addr) (news:List Zf) (cap:Nat) (had:ad=⟨W.heap.size,0,none⟩) (hx:a.eval x=.slice (some ad) 1 cap)
 (h:∀v' w',w'.ownsRow base e size v' (n+1) (xs++news)->YH base W w'->wpList P ops Q rest (a.put o.dst v') w')
 (hl:news.length=size) (h1:∀u∈news,u.oneCell'=true) (h63:n+1<=maxLen) (aaf:(n+1)*bytes<=140737488355328) (gM:base<=W.heap.size):wpList P ops Q (o::rest) a (W.alloc (.cells news.toArray e)):=by
 subst had;refine Yc (w:=W.alloc (.cells news.toArray e)) hgd s x t ho base e i z size bytes ht hi hz afK hby hzs D' v n xs hs (AX.alloc _) _ 1 cap news hx (by omega) (oE W news e) h1 h63 aaf (by simp;omega) fun v' w' h2 h3 _=>h v' w' h2 ?_;exact((Zh base W).alloc gM _).trans (aI h3 (by simp;omega) fun k hk=>(AX.lt k hk).1)
end
def CF (a:Addr)(n:Nat):(a.add n).block=a.block:=by unfold Zcu;split<;>rfl
def ET (b:Nat)(w w₁:Zb):Prop:=∀p v,p.block<b->w.cell? p=some v->w₁.cell? p=some v
variable {b ln lc lo hi l p g s r c K m0 m1:Nat}
def ET.trans {x y z:Zb}(h:ET b x y)(k:ET b y z):ET b x z:=fun p v hp hc=>k p v hp (h p v hp hc)
def ET.below (h:YH w.heap.size w w₁)(hb:b<=w.heap.size):ET b w w₁:=fun p v hp hc=>by
 rw[h.cell (Zl hp hb)];exact hc
structure ME (b:Nat)(w:Zb)(gc:Array Zf)(la:Option Addr)(ln lc:Nat)(sv:Zf)(rows:Nat->Zf)(fit:Nat->Bool):Prop where
 small:ln<=1000000
 cap:ln<=lc/\lc<=maxLen
 gN:gc.size=8
 there:∀i,i<ln->∃ad,la=some ad/\ad.block<b/\w.cell? (ad.add i)=some (rows i)
 row:∀i,i<ln->∃a n c,rows i=.slice a n c
 oF:∃a n c,sv=.slice a n c
 fits:∀i,i<ln->∀w₁,ET b w w₁->Calls Lp 59 #[.agg gc,rows i,sv] w₁ fun e w₂=>e=.returned (.bool (fit i))/\YH w₁.heap.size w₁ w₂
variable {gc:Array Zf}
variable {la A0 A1:Option Addr}
variable {sv:Zf}
variable {fit:Nat->Bool}
def ME.Ar {rows:Nat->Zf}(h:ME b w gc la ln lc sv rows fit)(k:ET b w w₁):ME b w₁ gc la ln lc sv rows fit:=
 ⟨h.small,h.cap,h.gN,fun i hi=>by
  obtain⟨ad,h1,h2,h3⟩:=h.there i hi;exact⟨ad,h1,h2,k _ _ (by rw[CF];exact h2) h3⟩,h.row,h.oF,fun i hi w₂ hw=>h.fits i hi w₂ (k.trans hw)⟩
def CX (rows:Nat->Zf)(fit:Nat->Bool)(lo hi:Nat):List Zf:=((Zcq lo (hi - lo)).filter fit).map rows
section
variable {rows:Nat->Zf}{fit:Nat->Bool}
def NJ (lo:Nat):CX rows fit lo lo=[]:=by simp[CX]
def Sg {k:Nat}(h:lo<=k):CX rows fit lo (k+1)=if fit k=true then CX rows fit lo k++ [rows k] else CX rows fit lo k:=by
 unfold CX;have e:k+1 - lo=(k - lo)+1:=by omega
 rw[e,List.range'_concat,ZcW,Zai];have e2:lo+1*(k - lo)=k:=by omega
 rw[e2];by_cases hf:fit k=true<;>simp[hf]
def Dh:(CX rows fit lo hi).length<=hi - lo:=by
 unfold CX;rw[List.length_map];refine Zr (Zac _ _) (by simp)
def dH {mid:Nat}(h1:lo<=mid)(h2:mid<=hi):CX rows fit lo mid++CX rows fit mid hi=CX rows fit lo hi:=by
 unfold CX;rw[<-Zai, <-ZcW]
 congr 2
 have e:hi - lo=(mid - lo)+(hi - mid):=by omega
 rw[e, <-List.range'_append_1]
 congr 2
 omega
end
def Sh (base lo k:Nat)(rows:Nat->Zf)(fit:Nat->Bool)(v:Zf)(wr:Zb):Prop:=wr.ownsRow base 22 1 v (CX rows fit lo k).length (CX rows fit lo k)
def E7 {w1:Zb}(hb:YH W.heap.size W w1):(∀b o,b<W.heap.size->w1.cell? ⟨b,o,none⟩=W.cell? ⟨b,o,none⟩)/\(∀b o,b<W.heap.size->w1.frozen? ⟨b,o,none⟩=W.frozen? ⟨b,o,none⟩):=
 ⟨fun b o h=>hb.cell (p:=⟨b,o,none⟩) h,fun b o h=>hb.frozen (p:=⟨b,o,none⟩) h⟩
def alo {rows:Nat->Zf}(H:ME b w gc la ln lc sv rows fit)(GK:b<=w.heap.size):
  Calls Lp 56 #[.agg gc,.slice la ln lc,sv] w fun e w'=>∃v,e=.returned v/\Sh w.heap.size 0 ln rows fit v w'/\YH w.heap.size w w':=by
 obtain⟨i0,hi,Fl,DR,EB⟩:=zp Hw;have Qh:=H.small;go_enter Lp.func155,dG;go_wp2
 go_loopw [3,5] (fun v i wr=>∃k:Nat,k<=ln/\i=.int .i64 k/\Sh w.heap.size 0 k rows fit v wr/\YH w.heap.size w wr) (fun _ i _=>ln - (ZdE i).toNat)
 case atStart=>exact⟨0,Zp _,rfl,by unfold Sh;rw[NJ];exact zq _ _ _ _,Zh _ _⟩
 obtain⟨k,hk,rfl,AX,Da⟩:=hrel;have D':=Da.size;by_cases Az:k<ln
 .obtain⟨ad,rfl,DU,Qi⟩:=H.there k Az
  obtain⟨ra,rn,rc,hr⟩:=H.row k Az;have G3:=H.fits k Az wr (ET.below Da GK);have hc:wr.cell? (ad.add k)=some (.slice ra rn rc):=by rw[<-hr,Da.cell (p:=ad.add k) (by rw[CF];omega)];exact Qi
  rw[hr]at G3;clear Qi;have HS:=Zd (Sg (rows:=rows) (fit:=fit) (Zp k));have HR:=Zd hr;clear hr;cases UN:fit k with
  |true=>
   rw[UN]at G3;have HF:=Zd UN;clear UN;have Bi:wr.ownsRow w.heap.size 22 1 u3 (CX rows fit 0 k).length (CX rows fit 0 k):=AX;clear AX;go_wp2_with (first
    |(go_at_call 59;refine G3.mono ?_;rintro e w1 ⟨rfl,FD⟩)
    |(at_builtin;refine GN (P:=Lp) (W:=w1) rfl (.tmp 3) (.tmp 10) 33 rfl w.heap.size 22 i0 (.slice none 0 0) 1 24 (Cz zW) (Dz hi) Fl DR EB rfl (by decide) u3 _ _ rfl (G_ Bi FD) ⟨w1.heap.size,0,none⟩ [.slice ra rn rc] 1 rfl rfl ?_ rfl ?c1 ?c2 ?c3 ?c4
      intro v' w2 Cm EC))
   case c1=>simp[YT]
   case c2=>have:=Dh (rows:=rows) (fit:=fit) (lo:=0) (hi:=k);simp only[maxLen];omega
   case c3=>have:=Dh (rows:=rows) (fit:=fit) (lo:=0) (hi:=k);omega
   case c4=>have:=FD.size;omega
   have h3:=HS.out;rw[if_pos HF.out,HR.out]at h3;have h4:Sh w.heap.size 0 (k+1) rows fit v' w2:=by unfold Sh;rw[h3];simpa using Cm
   have h5:YH w.heap.size w w2:=(Da.trans (FD.mono D')).trans EC;clear Cm EC h3 Bi G3 hc;go_wp2
   go_roundw
   case rel=>exact⟨k+1,by omega,by go_num,h4,h5⟩
   case measure=>simp[ZdE];omega
  |false=>
   rw[UN]at G3;have HF:=Zd UN;clear UN;go_wp2_with (first|(go_at_call 59;refine G3.mono ?_;rintro e w1 ⟨rfl,FD⟩));have h3:=HS.out;rw[if_neg (by rw[HF.out];simp)]at h3;have h4:Sh w.heap.size 0 (k+1) rows fit u3 w1:=by unfold Sh;rw[h3];exact G_ AX FD
   have h5:YH w.heap.size w w1:=Da.trans (FD.mono D')
   go_roundw
   case rel=>exact⟨k+1,by omega,by go_num,h4,h5⟩
   simp[ZdE];omega
 have lQ:k=ln:=by omega
 subst lQ;go_wp2;go_ret;exact⟨_,rfl,AX,Da⟩
variable {ops:Array Oper}
variable {rest:List Oper}
variable {o:Oper}
variable {a:Act}
variable {Q:Exit->Act->Zb->Prop}
def EU {P:Zo}(hgd:o.guard=none)(s x:Zbv)(t:Zs)
 (ho:o.op=.call {callee:=.builtin .append,args:= #[s,x],argTypes:= #[t,t]})
 (e:Zs) (i:TypeInfo) (ht:P.underlying t=some (.slice e)) (hi:P.info? e=some i)
 (hs:a.eval s=.slice none 0 0) (A:Option Addr) (c:Nat) (hx:a.eval x=.slice A 0 c)
 (h:wpList P ops Q rest (a.put o.dst (.slice none 0 0)) w):wpList P ops Q (o::rest) a w:=by
 refine wpList_plain hgd fun _ hK=>?_;have By:(Zao #[t,t] o.type #[.slice none 0 0,.slice A 0 c]).run P w=.ok (.slice none 0 0) w:=by
  cases A<;>simp[Zao,Y9 ht,sizeOf,typeInfo,hi,ZcX,Zu]
  rfl
 unfold ZbA Zby;simp only[ho,Zbh,invoke,builtin,zg,Sem.run_pure,Zaw,Zcr,List.map_cons,List.map_nil,hs,hx,By];exact hK _ _ h
def aag (w:Zb)(xs:List Zf)(e:Ending)(w':Zb):Prop:=
 ∃w₁,YH w.heap.size w w₁/\(xs.length=0->e=.returned (.slice none 0 0)/\w'=w₁)/\
  (0<xs.length->e=.returned (.slice (some ⟨w₁.heap.size,0,none⟩) xs.length (grownCap w₁ xs.length 0 22))/\w'=w₁.drew.alloc (.cells (xs.toArray++Zt #[.slice none 0 0] (grownCap w₁ xs.length 0 22 - xs.length)) 22))
def aJ {rows:Nat->Zf}(H:ME w.heap.size w gc la ln lc sv rows fit)(h1:(((zJ 1 0 3).cut (w.tape w.drawn (.appendCap 1 0 3)):Int)==1)=false):
  Calls Lp 25 #[.agg gc,.slice la ln lc,sv] w (aag w (CX rows fit 0 ln)):=by
 obtain⟨i0,hi,Fl,DR,EB⟩:=zp Hw;have hb:=t3b;have Qh:=H.small;have NK:=Dh (rows:=rows) (fit:=fit) (lo:=0) (hi:=ln);have hW:∀W,YH w.heap.size w W->Calls Lp 56 #[.agg gc,.slice la ln lc,sv] W fun e w'=>∃v,e=.returned v/\Sh W.heap.size 0 ln rows fit v w'/\YH W.heap.size W w':=fun W hB=>alo (H.Ar (ET.below hB (Zj _))) hB.size;have avi:∀u∈CX rows fit 0 ln,u.oneCell'=true:=by
  intro u hu;unfold CX at hu;obtain⟨i,hi,rfl⟩:=List.mem_map.1 hu;have:=(List.mem_filter.1 hi).1;rw[List.mem_range']at this;obtain⟨j,hj,rfl⟩:=this;obtain⟨a,n,c,e⟩:=H.row (0+1*j) (by omega);rw[e];rfl
 have Bb:∀W W',YH w.heap.size w W->YH W.heap.size W W'->YH w.heap.size w W':=fun W W' h k=>h.trans (k.mono h.size);generalize hxs:CX rows fit 0 ln=xs at*;have hX:=Zd hxs;clear hxs;by_cases hz:xs.length=0
 .have hW0:∀W,YH w.heap.size w W->Calls Lp 56 #[.agg gc,.slice la ln lc,sv] W fun e w'=>∃A c,e=.returned (.slice A 0 c)/\YH w.heap.size w w':=fun W hB=>(hW W hB).mono fun e w' ⟨v,he,hs,hb⟩=>by
   have DX:w'.ownsRow W.heap.size 22 1 v (CX rows fit 0 ln).length (CX rows fit 0 ln):=hs;rw[hX.out,hz]at DX;rcases DX.2 with⟨rfl,_⟩|⟨g,cap,cur,rfl,_⟩
   .exact⟨_,_,he,Bb _ _ hB hb⟩
   exact⟨_,_,he,Bb _ _ hB hb⟩
  clear hW;have HZ:=Zd hz;clear hz Fl DR EB;go_enter Lp.func104,MB;go_wp2_with (first
   |(go_at_call 56;refine(hW0 _ (((Zh _ _).alloc (Zj _) _).alloc (by simp) _).drew).mono ?_
     rintro e w1 ⟨A,c,rfl,FD⟩)
   |(at_builtin;refine EU (P:=Lp) (w:=w1) rfl (.const (.slice none 0 0)) (.tmp 11) 33 rfl 22 i0 (Cz zW) (Dz hi) rfl A c rfl ?_))
  all_goals go_ret
  all_goals exact⟨w1,FD,fun _=>⟨rfl,rfl⟩,fun h=>absurd HZ.out (by omega)⟩
 have NL:∀W,YH w.heap.size w W->Calls Lp 56 #[.agg gc,.slice la ln lc,sv] W fun e w'=>∃ad c,e=.returned (.slice (some ad) xs.length c)/\YH w.heap.size w w'/\∀j v,xs[j]?=some v->w'.cell? (ad.add j)=some v:=fun W hB=>(hW W hB).mono fun e w' ⟨v,he,hs,hb⟩=>by
  have DX:w'.ownsRow W.heap.size 22 1 v (CX rows fit 0 ln).length (CX rows fit 0 ln):=hs;rw[hX.out]at DX;rcases DX.2 with⟨_,h0⟩|⟨g,cap,cur,rfl,_⟩
  .exact absurd h0 hz
  exact⟨_,_,he,Bb _ _ hB hb,DX.cells rfl⟩
 clear hW;have HP:=Zd (Nat.pos_of_ne_zero hz);clear hz;go_enter Lp.func104,MB;go_wp2_with (first
  |(go_at_call 56;refine(NL _ (((Zh _ _).alloc (Zj _) _).alloc (by simp) _).drew).mono ?_
    rintro e w1 ⟨ad,c,rfl,FD,Si⟩)
  |(at_builtin;refine NH (P:=Lp) (w:=w1) rfl (.const (.slice none 0 0)) (.tmp 11) 33 rfl 22 i0 (.slice none 0 0) (Cz zW) (Dz hi) Fl rfl ad xs.length c xs rfl (by rw[DR];simp) Si HP.out (by omega) (by rw[EB];omega) ?_
    clear Si))
 all_goals go_ret
 all_goals exact⟨w1,FD,fun h=>absurd HP.out (by omega),fun _=>⟨rfl,rfl⟩⟩
def afL (t:Array Zf)(h:t.size=8):∃a0 a1 a2 a3 a4 a5 a6 a7,t= #[a0,a1,a2,a3,a4,a5,a6,a7]:=by
 obtain⟨l⟩:=t
 match l,h with
 | [a0,a1,a2,a3,a4,a5,a6,a7],_=>exact⟨a0,a1,a2,a3,a4,a5,a6,a7,rfl⟩
def dI (a:Addr)(i j:Nat):(a.add i).add j=a.add (i+j):=by
 unfold Zcu;by_cases hi:i=0<;>by_cases hj:j=0<;>simp[hi,hj,ZbZ]
def tD (wl:Zb)(p lo hi:Nat)(rows:Nat->Zf)(fit:Nat->Bool)(e:Ending)(w':Zb):Prop:=
 ∃v,e=.returned (.tuple #[v,.pointer (some ⟨p,0,none⟩)])/\Sh wl.heap.size lo hi rows fit v w'/\YH wl.heap.size wl w'
variable {ad:Addr}
variable {fz:Nat×Nat}
def aah {rows:Nat->Zf}(H:ME b wl gc (some ad) ln lc sv rows fit)(GK:b<=wl.heap.size)
 (hl:wl.cell? ⟨l,0,none⟩=some (.slice (some ad) ln lc)) (hp:wl.cell? ⟨p,0,none⟩=some (.int .i64 0)) (hg:wl.heap[g]?=some (.cells gc 62 fz)) (hs:wl.cell? ⟨s,0,none⟩=some sv):
  Calls Lp 57 (E6 l p g s) wl (tD wl p 0 (ln / 2) rows fit):=by
 obtain⟨i0,hi,Fl,DR,EB⟩:=zp Hw;have Qh:=H.small;obtain⟨c0,c1,c2,c3,c4,c5,c6,c7,rfl⟩:=afL gc H.gN;obtain⟨sa,sn,sc,rfl⟩:=H.oF;have yM:=H.cap;have IX:maxLen=9223372036854775807:=rfl;have NM:∀i v,(#[c0,c1,c2,c3,c4,c5,c6,c7]:Array Zf)[i]?=some v->wl.cell? ⟨g,i,none⟩=some v:=fun i v hv=>by rw[cell_of_row wl g i _ 62 fz hg];exact hv
 have NN:g<wl.heap.size:=(Za.1 hg).1;have NK:s<wl.heap.size:=ZH wl _ hs;have q1:(ln:Int) / 2<=(lc:Int):=by omega
 have HH:=Zd H;clear hg;unfold E6 ptr;go_enter Lp.func156,MC;simp only[Jd,Gb,Za7,Zw,lef,rN];go_wp2;clear hl hp
 go_loopw [6,23] (fun v i wr=>∃k:Nat,k<=ln / 2/\i=.int .i64 k/\Sh wl.heap.size 0 k rows fit v wr/\YH wl.heap.size wl wr) (fun _ i _=>ln / 2 - (ZdE i).toNat)
 case atStart=>exact⟨0,Zp _,rfl,by unfold Sh;rw[NJ];exact zq _ _ _ _,Zh _ _⟩
 obtain⟨k,hk,rfl,AX,Da⟩:=hrel;have D':=Da.size;by_cases Az:k<ln / 2
 .obtain⟨ad',e,DU,Qi⟩:=H.there k (by omega)
  cases e;obtain⟨ra,rn,rc,hr⟩:=H.row k (by omega);have G3:=H.fits k (by omega) wr (ET.below Da GK);have hc:wr.cell? (ad.add k)=some (.slice ra rn rc):=by rw[<-hr,Da.cell (p:=ad.add k) (by rw[CF];omega)];exact Qi
  rw[hr]at G3;clear Qi;have HS:=Zd (Sg (rows:=rows) (fit:=fit) (Zp k));have HR:=Zd hr;clear hr;have g0:wr.cell? ⟨g,0,none⟩=some c0:=by rw[Da.cell (p:=⟨g,0,none⟩) NN];exact NM 0 c0 rfl
  have g1:wr.cell? ⟨g,1,none⟩=some c1:=by rw[Da.cell (p:=⟨g,1,none⟩) NN];exact NM 1 c1 rfl
  have g2:wr.cell? ⟨g,2,none⟩=some c2:=by rw[Da.cell (p:=⟨g,2,none⟩) NN];exact NM 2 c2 rfl
  have g3:wr.cell? ⟨g,3,none⟩=some c3:=by rw[Da.cell (p:=⟨g,3,none⟩) NN];exact NM 3 c3 rfl
  have g4:wr.cell? ⟨g,4,none⟩=some c4:=by rw[Da.cell (p:=⟨g,4,none⟩) NN];exact NM 4 c4 rfl
  have g5:wr.cell? ⟨g,5,none⟩=some c5:=by rw[Da.cell (p:=⟨g,5,none⟩) NN];exact NM 5 c5 rfl
  have g6:wr.cell? ⟨g,6,none⟩=some c6:=by rw[Da.cell (p:=⟨g,6,none⟩) NN];exact NM 6 c6 rfl
  have g7:wr.cell? ⟨g,7,none⟩=some c7:=by rw[Da.cell (p:=⟨g,7,none⟩) NN];exact NM 7 c7 rfl
  have DX:wr.cell? ⟨s,0,none⟩=some (.slice sa sn sc):=by rw[Da.cell (p:=⟨s,0,none⟩) NK];exact hs
  have HGC:=Zd NM;clear NM hs H;cases UN:fit k with
  |true=>
   rw[UN]at G3;have HF:=Zd UN;clear UN;have Bi:wr.ownsRow wl.heap.size 22 1 u6 (CX rows fit 0 k).length (CX rows fit 0 k):=AX;clear AX;go_wp2_with (first
    |(go_at_call 59;refine G3.mono ?_;rintro e w1 ⟨rfl,FD⟩)
    |(at_builtin;refine GN (P:=Lp) (W:=w1) rfl (.tmp 31) (.tmp 33) 33 rfl wl.heap.size 22 i0 (.slice none 0 0) 1 24 (Cz zW) (Dz hi) Fl DR EB rfl (by decide) u6 _ _ rfl (G_ Bi FD) ⟨w1.heap.size,0,none⟩ [.slice ra rn rc] 1 rfl rfl ?_ rfl ?c1 ?c2 ?c3 ?c4
      intro v' w2 Cm EC))
   case c1=>simp[YT]
   case c2=>have:=Dh (rows:=rows) (fit:=fit) (lo:=0) (hi:=k);omega
   case c3=>have:=Dh (rows:=rows) (fit:=fit) (lo:=0) (hi:=k);omega
   case c4=>have:=FD.size;omega
   have h3:=HS.out;rw[if_pos HF.out,HR.out]at h3;have h4:Sh wl.heap.size 0 (k+1) rows fit v' w2:=by unfold Sh;rw[h3];simpa using Cm
   have h5:YH wl.heap.size wl w2:=(Da.trans (FD.mono D')).trans EC;clear Cm EC h3 Bi G3 hc g0 g1 g2 g3 g4 g5 g6 g7 DX;go_wp2
   go_roundw
   case rel=>exact⟨k+1,by omega,by go_num,h4,h5⟩
   case measure=>simp[ZdE];omega
  |false=>
   rw[UN]at G3;have HF:=Zd UN;clear UN;go_wp2_with (first|(go_at_call 59;refine G3.mono ?_;rintro e w1 ⟨rfl,FD⟩));have h3:=HS.out;rw[if_neg (by rw[HF.out];simp)]at h3;have h4:Sh wl.heap.size 0 (k+1) rows fit u6 w1:=by unfold Sh;rw[h3];exact G_ AX FD
   have h5:YH wl.heap.size wl w1:=Da.trans (FD.mono D')
   go_roundw
   case rel=>exact⟨k+1,by omega,by go_num,h4,h5⟩
   simp[ZdE];omega
 obtain rfl:k=ln / 2:=by omega
 clear H NM;go_wp2
 (try simp only[ZdC,Exit.then])
 refine bodyPost_end (results_tmp2 rfl _ _ _) rfl ?_;exact⟨_,rfl,AX,Da⟩
def aai {rows:Nat->Zf}(H:ME b wl gc (some ad) ln lc sv rows fit)(GK:b<=wl.heap.size)
 (hl:wl.cell? ⟨l,0,none⟩=some (.slice (some ad) ln lc)) (hp:wl.cell? ⟨p,0,none⟩=some (.int .i64 1)) (UO:0<ln) (hg:wl.heap[g]?=some (.cells gc 62 fz)) (hs:wl.cell? ⟨s,0,none⟩=some sv):
  Calls Lp 57 (E6 l p g s) wl (tD wl p (ln / 2) ln rows fit):=by
 obtain⟨i0,hi,Fl,DR,EB⟩:=zp Hw;have Qh:=H.small;obtain⟨c0,c1,c2,c3,c4,c5,c6,c7,rfl⟩:=afL gc H.gN;obtain⟨sa,sn,sc,rfl⟩:=H.oF;have yM:=H.cap;have IX:maxLen=9223372036854775807:=rfl;have NM:∀i v,(#[c0,c1,c2,c3,c4,c5,c6,c7]:Array Zf)[i]?=some v->wl.cell? ⟨g,i,none⟩=some v:=fun i v hv=>by rw[cell_of_row wl g i _ 62 fz hg];exact hv
 have NN:g<wl.heap.size:=(Za.1 hg).1;have NK:s<wl.heap.size:=ZH wl _ hs;have q1:(ln:Int) / 2<=(lc:Int):=by omega
 have q2:¬lc=ln / 2:=by omega
 have q3:(ln:Int) / 2<=(ln:Int):=by omega
 have q4:(ln:Int)<=(lc:Int):=by omega
 have HH:=Zd H;clear hg;unfold E6 ptr;go_enter Lp.func156,MC;simp only[Jd,Gb,Za7,Zw,lef,rN];go_wp2;clear hl hp
 go_loopw [6,23] (fun v i wr=>∃k:Nat,k<=ln - ln / 2/\i=.int .i64 k/\Sh wl.heap.size (ln / 2) (ln / 2+k) rows fit v wr/\YH wl.heap.size wl wr) (fun _ i _=>ln - ln / 2 - (ZdE i).toNat)
 case atStart=>exact⟨0,Zp _,rfl,by unfold Sh;rw[Nat.add_zero,NJ];exact zq _ _ _ _,Zh _ _⟩
 obtain⟨k,hk,rfl,AX,Da⟩:=hrel;have D':=Da.size;by_cases Az:k<ln - ln / 2
 .obtain⟨ad',e,DU,Qi⟩:=H.there (ln / 2+k) (by omega)
  cases e;obtain⟨ra,rn,rc,hr⟩:=H.row (ln / 2+k) (by omega);have G3:=H.fits (ln / 2+k) (by omega) wr (ET.below Da GK);have hc:wr.cell? ((ad.add (ln / 2)).add k)=some (.slice ra rn rc):=by rw[dI, <-hr,Da.cell (p:=ad.add (ln / 2+k)) (by rw[CF];omega)];exact Qi
  rw[hr]at G3;clear Qi;have HS:=Zd (Sg (rows:=rows) (fit:=fit) (show ln / 2<=ln / 2+k by omega));have HR:=Zd hr;clear hr;have g0:wr.cell? ⟨g,0,none⟩=some c0:=by rw[Da.cell (p:=⟨g,0,none⟩) NN];exact NM 0 c0 rfl
  have g1:wr.cell? ⟨g,1,none⟩=some c1:=by rw[Da.cell (p:=⟨g,1,none⟩) NN];exact NM 1 c1 rfl
  have g2:wr.cell? ⟨g,2,none⟩=some c2:=by rw[Da.cell (p:=⟨g,2,none⟩) NN];exact NM 2 c2 rfl
  have g3:wr.cell? ⟨g,3,none⟩=some c3:=by rw[Da.cell (p:=⟨g,3,none⟩) NN];exact NM 3 c3 rfl
  have g4:wr.cell? ⟨g,4,none⟩=some c4:=by rw[Da.cell (p:=⟨g,4,none⟩) NN];exact NM 4 c4 rfl
  have g5:wr.cell? ⟨g,5,none⟩=some c5:=by rw[Da.cell (p:=⟨g,5,none⟩) NN];exact NM 5 c5 rfl
  have g6:wr.cell? ⟨g,6,none⟩=some c6:=by rw[Da.cell (p:=⟨g,6,none⟩) NN];exact NM 6 c6 rfl
  have g7:wr.cell? ⟨g,7,none⟩=some c7:=by rw[Da.cell (p:=⟨g,7,none⟩) NN];exact NM 7 c7 rfl
  have DX:wr.cell? ⟨s,0,none⟩=some (.slice sa sn sc):=by rw[Da.cell (p:=⟨s,0,none⟩) NK];exact hs
  have HGC:=Zd NM;clear NM hs H;cases UN:fit (ln / 2+k) with
  |true=>
   rw[UN]at G3;have HF:=Zd UN;clear UN;have Bi:wr.ownsRow wl.heap.size 22 1 u6 (CX rows fit (ln / 2) (ln / 2+k)).length (CX rows fit (ln / 2) (ln / 2+k)):=AX;clear AX;go_wp2_with (first
    |(go_at_call 59;refine G3.mono ?_;rintro e w1 ⟨rfl,FD⟩)
    |(at_builtin;refine GN (P:=Lp) (W:=w1) rfl (.tmp 31) (.tmp 33) 33 rfl wl.heap.size 22 i0 (.slice none 0 0) 1 24 (Cz zW) (Dz hi) Fl DR EB rfl (by decide) u6 _ _ rfl (G_ Bi FD) ⟨w1.heap.size,0,none⟩ [.slice ra rn rc] 1 rfl rfl ?_ rfl ?c1 ?c2 ?c3 ?c4
      intro v' w2 Cm EC))
   case c1=>simp[YT]
   case c2=>have:=Dh (rows:=rows) (fit:=fit) (lo:=ln / 2) (hi:=ln / 2+k);omega
   case c3=>have:=Dh (rows:=rows) (fit:=fit) (lo:=ln / 2) (hi:=ln / 2+k);omega
   case c4=>have:=FD.size;omega
   have h3:=HS.out;rw[ZbZ]at h3;rw[if_pos HF.out,HR.out]at h3;have h4:Sh wl.heap.size (ln / 2) (ln / 2+(k+1)) rows fit v' w2:=by unfold Sh;rw[h3];simpa using Cm
   have h5:YH wl.heap.size wl w2:=(Da.trans (FD.mono D')).trans EC;clear Cm EC h3 Bi G3 hc g0 g1 g2 g3 g4 g5 g6 g7 DX;go_wp2
   go_roundw
   case rel=>exact⟨k+1,by omega,by go_num,h4,h5⟩
   case measure=>simp[ZdE];omega
  |false=>
   rw[UN]at G3;have HF:=Zd UN;clear UN;go_wp2_with (first|(go_at_call 59;refine G3.mono ?_;rintro e w1 ⟨rfl,FD⟩));have h3:=HS.out;rw[ZbZ]at h3;rw[if_neg (by rw[HF.out];simp)]at h3;have h4:Sh wl.heap.size (ln / 2) (ln / 2+(k+1)) rows fit u6 w1:=by unfold Sh;rw[h3];exact G_ AX FD
   have h5:YH wl.heap.size wl w1:=Da.trans (FD.mono D')
   go_roundw
   case rel=>exact⟨k+1,by omega,by go_num,h4,h5⟩
   simp[ZdE];omega
 obtain rfl:k=ln - ln / 2:=by omega
 have e:ln / 2+(ln - ln / 2)=ln:=by omega
 rw[e]at AX;clear e;clear H NM;go_wp2
 (try simp only[ZdC,Exit.then])
 refine bodyPost_end (results_tmp2 rfl _ _ _) rfl ?_;exact⟨_,rfl,AX,Da⟩
def aaj {rows:Nat->Zf}{k:Int}(hk:k=0\/k=1)
 (hl:wl.cell? ⟨l,0,none⟩=some (.slice la 0 lc)) (hp:wl.cell? ⟨p,0,none⟩=some (.int .i64 k)):
  Calls Lp 57 (E6 l p g s) wl (tD wl p 0 0 rows fit):=by
 have IX:maxLen=9223372036854775807:=rfl;unfold E6 ptr;rcases hk with rfl|rfl<;>cases la
 all_goals
  go_enter Lp.func156,MC;simp only[Jd,Gb,Za7,Zw,lef,rN];go_wp2;refine Zbd 1 ?_;rw[YG];go_wp2
  (try simp only[ZdC,Exit.then])
  refine bodyPost_end (results_tmp2 rfl _ _ _) rfl ?_;exact⟨_,rfl,by unfold Sh;rw[NJ];exact zq _ _ _ _,Zh _ _⟩
def alq {rows:Nat->Zf}(H:ME b wl gc la ln lc sv rows fit)(GK:b<=wl.heap.size)(k:Nat)(hk:k<2)
 (hl:wl.cell? ⟨l,0,none⟩=some (.slice la ln lc)) (hp:wl.cell? ⟨p,0,none⟩=some (.int .i64 k)) (hg:wl.heap[g]?=some (.cells gc 62 fz)) (hs:wl.cell? ⟨s,0,none⟩=some sv):
  Calls Lp 57 (E6 l p g s) wl (tD wl p (k*ln / 2) ((k+1)*ln / 2) rows fit):=by
 by_cases h0:ln=0
 .subst h0
  have e1:k*0 / 2=0:=by omega
  have e2:(k+1)*0 / 2=0:=by omega
  rw[e1,e2];exact aaj (k:=k) (by omega) hl hp
 obtain⟨ad,rfl,_⟩:=H.there 0 (by omega);have Kh:k=0\/k=1:=by omega
 rcases Kh with rfl|rfl
 .have e1:0*ln / 2=0:=by omega
  have e2:(0+1)*ln / 2=ln / 2:=by omega
  rw[e1,e2];exact aah H GK hl hp hg hs
 have e1:1*ln / 2=ln / 2:=by omega
 have e2:(1+1)*ln / 2=ln:=by omega
 rw[e1,e2];exact aai H GK hl hp (by omega) hg hs
def L_ (b:Nat):∀(vs:List Zf) (o:Nat) (w:Zb) (cur:Array Zf) (e:Zs) (f:Nat×Nat),w.heap[b]?=some (.cells cur e f)->
  ∃dJ:Array Zf,(w.setCells b o vs).heap[b]?=some (.cells dJ e f)/\dJ.size=cur.size/\(∀i,dJ[i]?=if o<=i/\i<o+vs.length/\i<cur.size then vs[i - o]? else cur[i]?)/\
   (∀k,k≠b->(w.setCells b o vs).heap[k]?=w.heap[k]?)/\(w.setCells b o vs).heap.size=w.heap.size/\(w.setCells b o vs).os=w.os/\(w.setCells b o vs).tape=w.tape/\(w.setCells b o vs).output=w.output
 | [],o,w,cur,e,f,h=>⟨cur,h,rfl,fun i=>by rw[if_neg (by simp;omega)],fun _ _=>rfl,rfl,rfl,rfl,rfl⟩
 |v::r,o,w,cur,e,f,h=>by
  have h1:(w.setCell ⟨b,o,none⟩ v).heap[b]?=some (.cells (cur.setIfInBounds o v) e f):=by
   simp[Z8,Y7,h]
  obtain⟨dJ,a1,a2,a3,a4,a5,a6,a7,a8⟩:=L_ b r (o+1) _ _ e f h1;refine⟨dJ,a1,by rw[a2];simp,fun i=>?_,fun k hk=>(a4 k hk).trans (Y4 w _ v k hk),by show((w.setCell ⟨b,o,none⟩ v).setCells b (o+1) r).heap.size=_;rw[a5];simp[Z8],a6,a7,a8⟩;rw[a3 i];simp only[Array.size_setIfInBounds,zb];by_cases hi:i<cur.size
  .rcases Nat.lt_trichotomy i o with h2|h2|h2
   .rw[if_neg (by omega),if_neg (by omega),Zk (by omega)]
   .subst h2
    rw[if_neg (by omega),if_pos (by omega),ZV hi];simp
   by_cases h3:i<o+1+r.length
   .rw[if_pos (by omega),if_pos (by omega)]
    have:i - o=(i - (o+1))+1:=by omega
    rw[this,ZD]
   rw[if_neg (by omega),if_neg (by omega),Zk (by omega)]
  rw[if_neg (by omega),if_neg (by omega)];rw[YR (by simp;omega),YR (by omega)]
abbrev TW:Zf:=.slice none 0 0
def Room (w:Zb)(r c:Nat)(xs:List Zf):Prop:=xs.length<=c/\w.heap[r]?=some (.cells (xs.toArray++Yu (c - xs.length) TW) 22 (0,0))
def IM (n:Nat):Zt #[TW] n=Yu n TW:=by
 unfold Zt;apply Array.ext
 .simp
 intro i h1 h2;simp[Nat.mod_one]
def Room.cell (h:Room w r c xs)(i:Nat):w.cell? ⟨r,i,none⟩=(xs.toArray++Yu (c - xs.length) TW)[i]? :=cell_of_row w r i _ 22 (0,0) h.2
section
variable {P:Zo}
def Room.put (h:Room w r c xs)(hc:xs.length+news.length<=c):Room (w.setCells r xs.length news) r c (xs++news)/\(∀k,k≠r->(w.setCells r xs.length news).heap[k]?=w.heap[k]?)/\(w.setCells r xs.length news).heap.size=w.heap.size/\(w.setCells r xs.length news).os=w.os/\(w.setCells r xs.length news).tape=w.tape/\(w.setCells r xs.length news).output=w.output:=by
 obtain⟨dJ,a1,a2,a3,a4⟩:=L_ r news xs.length w _ _ _ h.2;refine⟨⟨by rw[ZA];exact hc,?_⟩,a4⟩;rw[a1]
 congr 2
 have hs:(xs.toArray++Yu (c - xs.length) TW).size=c:=by simp;omega
 apply Array.ext
 .rw[a2,hs];simp;omega
 intro i h1 h2;have:=a3 i;rw[hs]at this;have hi:i<c:=by rw[a2,hs]at h1;exact h1
 rw[<-Option.some_inj, <-Zx h1, <-Zx h2,this];by_cases h3:xs.length<=i
 .by_cases h4:i<xs.length+news.length
  .rw[if_pos ⟨h3,h4,hi⟩,zr (by simp;omega)]
   simp[Zbr h3]
  rw[if_neg (by omega),Zan (by simp;omega),Zan (by simp;omega)];simp only[Array.getElem?_replicate];rw[if_pos (by simp;omega),if_pos (by simp;omega)]
 rw[if_neg (by omega),zr (by simp;omega),zr (by simp;omega)];simp[zl (show i<xs.length by omega)]
def OY (hi:∃i,P.info? 22=some i/\i.size=1)(ht:P.underlying 33=some (.slice 22))(ty:Zs)(h:Room w r c xs)(A:Option Addr)(m mc:Nat)(hl:news.length=m)(hc:xs.length+m<=c)
 (NI:∀j u,news[j]?=some u->∃ad,A=some ad/\w.cell? (ad.add j)=some u) (h1:∀u∈news,u.oneCell'=true):
  (Zao #[33,33] ty #[.slice (some ⟨r,0,none⟩) xs.length c,.slice A m mc]).run P w=.ok (.slice (some ⟨r,0,none⟩) (xs.length+m) c) (w.setCells r xs.length news):=by
 obtain⟨i,hi,hz⟩:=hi;subst hl;cases A with
 |none=>
  have:news=[]:=by
   cases news with
   |nil=>rfl
   |cons x l=>obtain⟨ad,h,_⟩:=NI 0 x rfl;cases h
  subst this;simp[Zao,Y9 ht,sizeOf,typeInfo,hi,ZcX,Zu,h.1,ZbX,World.setCells]
 |some ad=>
  have hr:=run_append_room_cells (P:=P) w 33 ty 22 i ht hi r 0 xs.length c ad news.length mc news (by rw[hz];omega) (fun j u hu=>by
   obtain⟨ad',e,hc⟩:=NI j u hu;cases e;exact hc) h1 hc (fun j hj=>by
    rw[hz,h.cell,Zx (by simp;omega)]
    rfl) (fun j hj=>by
    unfold Yo;rw[h.2];simp)
  rw[hr,hz];simp
end
def afM:Tryz.t22.bytes=24:=by decide+kernel
def alr (n:Nat)(w:Zb)(hn:0<n)(hs:n<=1000000):
  Calls Lp 93 #[.slice none 0 0,.int .i64 n] w fun e w'=>∃c,e=.returned (.slice (some ⟨w.heap.size,0,none⟩) 0 c)/\n<=c/\c<=maxLen/\Room w' w.heap.size c []/\YH w.heap.size w w':=by
 have b1:¬281474976710656<Yx n 0*Tryz.t22.bytes:=by rw[afM,nextslicecap_zero hn];omega
 have b2:¬281474976710656<(n:Int)*(Tryz.t22.bytes:Int):=by rw[afM];omega
 have b3:¬n=0:=by omega
 have b4:decide ((0:Int)<(n:Int))=true:=by simpa using hn
 go_enter Lp.func187,Tryz.ntmps93;go_wp2;go_ret;refine⟨_,rfl,?_,?_,?_,?_⟩
 .exact grownCap_ge w n 0 22
 .exact grownCap_le_maxLen w n 0 22 (by simp only[maxLen];omega)
 .refine⟨Zp _,?_⟩
  have hge:=grownCap_ge w n 0 22;have e:((w.alloc (Zbi (Zt #[TW] n++Zt #[TW] ((zJ n 0 22).cut (w.tape w.drawn (zJ n 0 22)) - n)) 22)).drew).heap[w.heap.size]?=some (.cells (Zt #[TW] n++Zt #[TW] (grownCap w n 0 22 - n)) 22 (0,0)):=heap_alloc_new w _;rw[e,IM,IM]
  congr 2
  apply Array.ext
  .simp[grownCap]at hge⊢;omega
  intro i h1 h2;simp
 exact((Zh _ _).alloc (Zj _) _).drew
section
variable {P:Zo}
def GX (hgd:o.guard=none)(s x:Zbv)
 (ho:o.op=.call {callee:=.builtin .append,args:= #[s,x],argTypes:= #[33,33]}) (hi:∃i,P.info? 22=some i/\i.size=1) (ht:P.underlying 33=some (.slice 22))
 (r c n:Nat) (xs:List Zf) (h:Room w r c xs) (hn:n=xs.length) (hs:a.eval s=.slice (some ⟨r,0,none⟩) n c) (A:Option Addr) (m mc:Nat) (news:List Zf) (hx:a.eval x=.slice A m mc)
 (hK:∀w',Room w' r c (xs++news)->(∀B,B<=r->YH B w w')->wpList P ops Q rest (a.put o.dst (.slice (some ⟨r,0,none⟩) (n+m) c)) w')
 (hl:news.length=m) (hc:n+m<=c) (NI:∀j u,news[j]?=some u->∃ad,A=some ad/\w.cell? (ad.add j)=some u) (h1:∀u∈news,u.oneCell'=true):wpList P ops Q (o::rest) a w:=by
 subst hn;refine wpList_plain hgd fun _ hK'=>?_;have By:=OY (P:=P) hi ht o.type h A m mc hl hc NI h1;obtain⟨p1,p2,p3,p4,p5,p6⟩:=h.put (news:=news) (by omega);unfold ZbA Zby;simp only[ho,Zbh,invoke,builtin,zg,Sem.run_pure,Zaw,Zcr,List.map_cons,List.map_nil,hs,hx,By];exact hK' _ _ (hK _ p1 fun B hB=>⟨p4,p5,p6,ZcS p3.symm,fun k hk=>p2 k (by omega)⟩)
end
def aak (wl:Zb)(xs:List Zf)(e:Ending)(w':Zb):Prop:=
 YH wl.heap.size wl w'/\(xs.length=0->e=.returned (.slice none 0 0))/\(0<xs.length->∃r c,e=.returned (.slice (some ⟨r,0,none⟩) xs.length c)/\wl.heap.size<=r/\c<=maxLen/\Room w' r c xs)
def KZ (w:Zb)(A:Option Addr)(xs:List Zf):Prop:=∀j u,xs[j]?=some u->∃ad,A=some ad/\ad.block<w.heap.size/\w.cell? (ad.add j)=some u
def KZ.below {A:Option Addr}(h:KZ w A xs)(hb:YH w.heap.size w w'):∀j u,xs[j]?=some u->∃ad,A=some ad/\w'.cell? (ad.add j)=some u:=fun j u hu=>by
 obtain⟨ad,h1,h2,h3⟩:=h j u hu;exact⟨ad,h1,by rw[hb.cell (p:=ad.add j) (by rw[CF];exact h2)];exact h3⟩
def aal (h0:wl.cell? ⟨K,0,none⟩=some (.slice A0 TV.length m0))(h1:wl.cell? ⟨K,1,none⟩=some (.slice A1 UM.length m1))(Oo:KZ wl A0 TV)(MF:KZ wl A1 UM)
 (o0:∀u∈TV,u.oneCell'=true) (o1:∀u∈UM,u.oneCell'=true) (hs:TV.length+UM.length<=1000000) (hp:0<TV.length+UM.length):
  Calls Lp 61 #[.slice (some ⟨K,0,none⟩) 2 2] wl (aak wl (TV++UM)):=by
 have hi:∃i,Lp.info? 22=some i/\i.size=1:=by
  obtain⟨i0,hi,_,h,_⟩:=zp Hw;exact⟨i0,Dz hi,h⟩
 have hG:∀W,Calls Lp 93 #[.slice none 0 0,.int .i64 ((TV.length:Int)+(UM.length:Int))] W fun e w'=>∃c,e=.returned (.slice (some ⟨W.heap.size,0,none⟩) 0 c)/\TV.length+UM.length<=c/\c<=maxLen/\Room w' W.heap.size c []/\YH W.heap.size W w':=fun W=>by
  have:=alr (TV.length+UM.length) W hp hs;rwa[Int.natCast_add]at this
 have HX:=Zd (ZY Oo MF);have HO:=Zd (ZY o0 o1);clear Oo MF o0 o1;have hKl:K<wl.heap.size:=ZH wl _ h0;go_enter Lp.func159,Tryz.ntmps61;go_wp2;refine Zbd 3 ?_;rw[YG];go_wp2;rw[YG];go_wp2;rw[YG];go_wp2_with (go_at_call 93;refine(hG _).mono ?_;rintro e w1 ⟨c,rfl,L6,NP,tE,FD⟩);have k0:w1.cell? ⟨K,0,none⟩=some (.slice A0 TV.length m0):=by rw[FD.cell (p:=⟨K,0,none⟩) hKl];exact h0
 have k1:w1.cell? ⟨K,1,none⟩=some (.slice A1 UM.length m1):=by rw[FD.cell (p:=⟨K,1,none⟩) hKl];exact h1
 have HR0:=Zd tE;clear tE h0 h1;refine Zbd 3 ?_;rw[YG];go_wp2_with (at_builtin;refine GX (P:=Lp) (w:=w1) rfl (.tmp 31) (.tmp 32) rfl hi (Cz zW) wl.heap.size c 0 [] HR0.out rfl rfl A0 TV.length m0 TV rfl ?_ rfl (by omega) ?d1 HO.out.1;intro w2 Xg EC)
 case d1=>exact HX.out.1.below FD
 have Xi:=EC wl.heap.size (Zj _);have UQ:YH wl.heap.size wl w2:=FD.trans Xi;have k2:w2.cell? ⟨K,1,none⟩=some (.slice A1 UM.length m1):=by rw[Xi.cell (p:=⟨K,1,none⟩) hKl];exact k1
 simp only[zP]at Xg;have HR1:=Zd Xg;clear Xg EC Xi k0 k1;rw[YG];go_wp2_with (at_builtin;refine GX (P:=Lp) (w:=w2) rfl (.tmp 31) (.tmp 32) rfl hi (Cz zW) wl.heap.size c TV.length TV HR1.out rfl rfl A1 UM.length m1 UM rfl ?_ rfl (by omega) ?d2 HO.out.2;intro w3 Ox wN)
 case d2=>exact HX.out.2.below UQ
 have Xj:YH wl.heap.size wl w3:=UQ.trans (wN wl.heap.size (Zj _));have HR2:=Zd Ox;clear Ox wN k2;rw[YG];go_wp2;go_ret;refine⟨Xj,fun h=>absurd h (by rw[ZA];omega),fun _=>⟨wl.heap.size,c,?_,Zj _,NP,HR2.out⟩⟩;rw[ZA];rfl
def aam (w:Zb):Calls Lp 93 #[.slice none 0 0,.int .i64 0] w fun e w'=>e=.returned (.slice none 0 0)/\w=w':=by
 go_enter Lp.func187,Tryz.ntmps93;go_wp2;go_ret;exact⟨rfl,rfl⟩
def aan (h0:wl.cell? ⟨K,0,none⟩=some (.slice A0 0 m0))(h1:wl.cell? ⟨K,1,none⟩=some (.slice A1 0 m1)):
  Calls Lp 61 #[.slice (some ⟨K,0,none⟩) 2 2] wl (aak wl []):=by
 obtain⟨i0,hi,_,_,_⟩:=zp Hw;go_enter Lp.func159,Tryz.ntmps61;go_wp2;refine Zbd 3 ?_;rw[YG];go_wp2;rw[YG];go_wp2;rw[YG];go_wp2_with (go_at_call 93;refine(aam _).mono ?_;rintro e w1 ⟨rfl,rfl⟩);refine Zbd 3 ?_;rw[YG];go_wp2_with (at_builtin;refine EU (P:=Lp) (w:=wl) rfl (.tmp 31) (.tmp 32) 33 rfl 22 i0 (Cz zW) (Dz hi) rfl A0 m0 rfl ?_);rw[YG];go_wp2_with (at_builtin;refine EU (P:=Lp) (w:=wl) rfl (.tmp 31) (.tmp 32) 33 rfl 22 i0 (Cz zW) (Dz hi) rfl A1 m1 rfl ?_);rw[YG];go_wp2;go_ret;exact⟨Zh _ _,fun _=>rfl,fun h=>absurd h (by simp)⟩
def als (h0:wl.cell? ⟨K,0,none⟩=some (.slice A0 TV.length m0))(h1:wl.cell? ⟨K,1,none⟩=some (.slice A1 UM.length m1))(Oo:KZ wl A0 TV)(MF:KZ wl A1 UM)
 (o0:∀u∈TV,u.oneCell'=true) (o1:∀u∈UM,u.oneCell'=true) (hs:TV.length+UM.length<=1000000):
  Calls Lp 61 #[.slice (some ⟨K,0,none⟩) 2 2] wl (aak wl (TV++UM)):=by
 by_cases hp:0<TV.length+UM.length
 .exact aal h0 h1 Oo MF o0 o1 hs hp
 have e0:TV=[]:=YM (by omega);have e1:UM=[]:=YM (by omega);subst e0 e1;exact aan h0 h1
def OZ (e t:Zf)(w:Zb)(h1:(((zJ 1 0 3).cut (w.tape w.drawn (.appendCap 1 0 3)):Int)==1)=true):
  Calls Lp 71 #[e,t] w fun e' w'=>e'=.panicked [{v:=Wd #[e,t,MD w.heap.size],recovered:=false}]/\YH w.heap.size w w':=by
 have hb:=t3b;go_enter Lp.func91,OX;go_wp2;refine⟨rfl,rfl,?_⟩;exact(((Zh _ _).alloc (Zj _) _).alloc (by simp) _).drew
def gO (t:Zf)(w:Zb)(h1:(((zJ 1 0 3).cut (w.tape w.drawn (.appendCap 1 0 3)):Int)==1)=false):
  Calls Lp 71 #[.nilIface,t] w fun e' w'=>e'=.returned (.bool false)/\YH w.heap.size w w':=by
 have hb:=t3b;go_enter Lp.func91,OX;go_wp2;go_ret;exact⟨rfl,(((Zh _ _).alloc (Zj _) _).alloc (by simp) _).drew⟩
def aao (n:Int)(w:Zb):(Zbt (.iface 152 (.agg #[.int .i64 n])) 137 152 false).run Lp w=.ok (.agg #[.int .i64 n]) w:=by kernel_rfl
def aap (a:Addr)(w:Zb):(Zbt (.iface 154 (.pointer (some a))) 20 154 false).run Lp w=.ok (.pointer (some a)) w:=by kernel_rfl
def gP (n m:Int)(t:Nat)(w:Zb)(h1:(((zJ 1 0 3).cut (w.tape w.drawn (.appendCap 1 0 3)):Int)==1)=false)(ht:w.heap[t]?=some (.cells #[.int .i64 m] 152 (0,0))):
  Calls Lp 71 #[.iface 152 (.agg #[.int .i64 n]),.iface 154 (.pointer (some ⟨t,0,none⟩))] w fun e' w'=>e'=.returned (.bool true)/\YH w.heap.size (w.setCell ⟨t,0,none⟩ (.int .i64 n)) w':=by
 have hb:=t3b;have x1:=aao;have x2:=aap;have cI:t<w.heap.size:=(Za.1 ht).1;have hc:w.cell? ⟨t,0,none⟩=some (.int .i64 m):=by unfold zy;rw[ht];rfl
 have hf:w.frozen? ⟨t,0,none⟩=false:=by unfold Yo;rw[ht];simp
 clear ht;go_enter Lp.func91,OX;go_wp2;go_ret;exact⟨rfl,(((Zh _ _).alloc (by simp) _).alloc (by simp) _).drew⟩
end Go.Proofs.Fit
