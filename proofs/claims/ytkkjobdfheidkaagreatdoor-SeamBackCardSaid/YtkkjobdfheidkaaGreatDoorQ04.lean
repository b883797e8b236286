/- Part of a proof. -/
import Derived.Test.YtkkjobdfheidkaaGreatDoorQ03
import Derived.ProofKit
import Derived.WalkKit
import Derived.Lib.Hide
import Derived.Deep.AppendLies
set_option maxRecDepth 100000
set_option maxHeartbeats 6400000
noncomputable section
set_option linter.all false
open And renaming intro->ZX
open Array renaming getElem?_eq_some_iff->Za,getElem?_modify->Zac,getElem?_setIfInBounds_ne->Zk,getElem?_setIfInBounds_self_of_lt->Z5,getElem?_eq_none->YX,replicate->YD,getElem?_eq_getElem->ZC,getElem?_append_left->zv,getElem?_append_right->Zaq
open Go renaming Program->Zp,TypeId->Zr,World->Zc,FuncId->ZaV,Value->Ze,callFunc->ZB,Operand->ZbX,execOp->ZbE,resolve->Zbp,wpList_append_own->Yj,info_parts->zq,run_underlying->Zae,wp_loop_rounds->Zbl,rounds_succ->YN,storeCells->Zb3
open Go.Addr renaming add->Zcz
open Go.Builtin renaming zeroCells->Zs,nextslicecap->YG,append_->Zar,lenOf->ZcW,firstCells->Zw
open Go.Exit renaming inBlock->ZdC
open Go.Instr renaming typeAssert->ZbA
open Go.Lib renaming hid->Zb
open Go.Obj renaming cells->ZbM
open Go.Oper renaming wp->ZbG
open Go.Program renaming underlying->Zb2,cellsOf->Zct
open Go.Proofs.Tryz renaming prog->Zd,f5->Zdo,f7->Zdn,f8->Zdm,underlying27->zY,f156->Zbd
open Go.Question renaming appendCap->zS
open Go.Result renaming andThen_ok->ZaB
open Go.RowKit renaming Below->YS,intOf->ZdF
open Go.RowKit.Below renaming refl->Zg,heap_setCell->Zab
open Go.Sem renaming run_bind->zm
open Go.Value renaming oneCell'->Yv
open Go.World renaming ownsRow_nil->zh,block_lt_of_cell?->Zy,setCell->zb,frozen?->Yy,cell?->zG
open List renaming map_toArray->Zcw,range'->Zcv,map_append->Zaa,length_map->Zbz,mem_map->Zby,length_cons->zp,getElem?_cons_succ->ZQ,length_append->ZF,getElem?_append_right->zx,getElem?_append_left->Z4,nil_append->zZ,eq_nil_of_length_eq_zero->YR
open Nat renaming le_refl->Zj,lt_of_lt_of_le->Zm,le_trans->Zt,zero_le->Zn,add_assoc->Zb4,le_of_eq->ZcT
open Option renaming getD_some->Zx
namespace Go.Proofs.Fit
open Go
def Lp:Zp:=qY Rb
def Jw:Lp.toTables=Tryz.prog.toTables:=rfl
@[simp] def qZ (t:Zr):Lp.underlying t=Tryz.prog.underlying t:=by unfold Zb2;rw[Jw]
@[simp] def jY (t:Zr):Lp.info? t=Tryz.prog.info? t:=by rw[Jw]
@[simp] def ahM (t:Zr):Lp.cellsOf t=Tryz.prog.cellsOf t:=by unfold Zct;rw[Jw]
@[simp] def ahN (t:Zr):Lp.bytesOf t=Tryz.prog.bytesOf t:=by unfold Program.bytesOf;rw[Jw]
def q9:Lp.depth=Tryz.prog.depth:=by unfold Program.depth;rw[Jw]
def jZ (Q:Zp)(t:Zr)(w:Zc):(underlying t).run Q w=match Q.underlying t with|some d=>.ok d w|none=>.halt (.stuck "no such type") w:=by
 show(match Q.underlying t with|some d=>pure d|none=>stuck "no such type" :Sem TypeDesc).run Q w=_;cases Q.underlying t<;>rfl
def cA (Q:Zp)(t:Zr)(w:Zc):(typeInfo t).run Q w=match Q.info? t with|some d=>.ok d w|none=>.halt (.stuck "no such type") w:=by
 show(match Q.info? t with|some d=>pure d|none=>stuck "no such type" :Sem TypeInfo).run Q w=_;cases Q.info? t<;>rfl
@[simp] def Pv (t:Zr)(w:Zc):(underlying t).run Lp w=(underlying t).run Zd w:=by rw[jZ,jZ,qZ]
@[simp] def Qt (t:Zr)(w:Zc):(typeInfo t).run Lp w=(typeInfo t).run Zd w:=by rw[cA,cA,jY]
@[simp] def afi (t:Zr)(w:Zc):(sizeOf t).run Lp w=(sizeOf t).run Zd w:=by
 have h:∀Q,(sizeOf t).run Q w=((typeInfo t).run Q w).andThen fun i w=>.ok i.size w:=fun Q=>by
  unfold sizeOf;rw[zm];rfl
 rw[h,h,Qt]
@[simp] def ahO (t:Zr)(w:Zc):(isAgg t).run Lp w=(isAgg t).run Zd w:=by
 have h:∀Q,(isAgg t).run Q w=((underlying t).run Q w).andThen fun d w=>.ok (match d with| .struct _| .array _ _=>true|_=>false) w:=fun Q=>by
  unfold isAgg;rw[zm]
  congr 1
  funext d w
  cases d<;>rfl
 rw[h,h,Pv]
@[simp] def wA (t:Zr)(w:Zc):(zeroValue t).run Lp w=(zeroValue t).run Zd w:=by
 have h:∀Q,(zeroValue t).run Q w=((typeInfo t).run Q w).andThen fun i w=>match i.zero with|some v=>.ok v w|none=>.halt (.unsupported (.resourceLimit "a value of more than 2^22 cells")) w:=fun Q=>by
  unfold zeroValue;rw[zm]
  congr 1
  funext i w
  cases i.zero<;>rfl
 rw[h,h,Qt]
def Ap (Q:Zp)(f:ZaV){fn:Func}(h:Q.funcs[f]?=some fn)(hn:(fn.name== "runtime.NumGoroutine")=false)(hb:fn.body.isSome=true)(args:Array Ze)(w:Zc):(ZB f args).run Q w=.ok (.enter f args) w:=by
 have GZ:fn.body.isNone=false:=by cases hx:fn.body<;>simp_all
 show(match Q.funcs[f]? with
  |none=>stuck "call: no such function"
  |some fn=>if fn.name== "runtime.NumGoroutine" then pure .numGoroutine else if fn.body.isNone then _ else pure (.enter f args):Sem Next).run Q w=_
 rw[h];dsimp only;rw[hn,GZ]
 rfl
@[simp] def Lp.func5:Lp.funcs[5]?=some Zdo:=(AK.same 5 rfl rfl).trans Tryz.func5
@[simp] def Lp.func7:Lp.funcs[7]?=some Zdn:=(AK.same 7 rfl rfl).trans Tryz.func7
@[simp] def Lp.func8:Lp.funcs[8]?=some Zdm:=(AK.same 8 rfl rfl).trans Tryz.func8
@[simp] def Lp.func26:Lp.funcs[26]?=some Tryz.f26:=(AK.same 26 rfl rfl).trans Tryz.func26
@[simp] def Lp.call26 (args:Array Ze)(w:Zc):(ZB 26 args).run Lp w=.ok (.enter 26 args) w:=Ap Lp 26 Lp.func26 rfl rfl args w
@[simp] def Lp.func27:Lp.funcs[27]?=some Tryz.f27:=(AK.same 27 rfl rfl).trans Tryz.func27
@[simp] def Lp.call27 (args:Array Ze)(w:Zc):(ZB 27 args).run Lp w=.ok (.enter 27 args) w:=Ap Lp 27 Lp.func27 rfl rfl args w
@[simp] def Lp.func29:Lp.funcs[29]?=some Tryz.f29:=(AK.same 29 rfl rfl).trans Tryz.func29
@[simp] def Lp.call29 (args:Array Ze)(w:Zc):(ZB 29 args).run Lp w=.ok (.enter 29 args) w:=Ap Lp 29 Lp.func29 rfl rfl args w
@[simp] def Lp.func30:Lp.funcs[30]?=some Tryz.f30:=(AK.same 30 rfl rfl).trans Tryz.func30
@[simp] def Lp.call30 (args:Array Ze)(w:Zc):(ZB 30 args).run Lp w=.ok (.enter 30 args) w:=Ap Lp 30 Lp.func30 rfl rfl args w
@[simp] def Lp.func32:Lp.funcs[32]?=some Tryz.f32:=(AK.same 32 rfl rfl).trans Tryz.func32
@[simp] def Lp.call32 (args:Array Ze)(w:Zc):(ZB 32 args).run Lp w=.ok (.enter 32 args) w:=Ap Lp 32 Lp.func32 rfl rfl args w
@[simp] def Lp.func33:Lp.funcs[33]?=some Tryz.f33:=(AK.same 33 rfl rfl).trans Tryz.func33
@[simp] def Lp.call33 (args:Array Ze)(w:Zc):(ZB 33 args).run Lp w=.ok (.enter 33 args) w:=Ap Lp 33 Lp.func33 rfl rfl args w
@[simp] def Lp.func34:Lp.funcs[34]?=some Tryz.f34:=(AK.same 34 rfl rfl).trans Tryz.func34
@[simp] def Lp.call34 (args:Array Ze)(w:Zc):(ZB 34 args).run Lp w=.ok (.enter 34 args) w:=Ap Lp 34 Lp.func34 rfl rfl args w
@[simp] def Lp.func36:Lp.funcs[36]?=some Tryz.f36:=(AK.same 36 rfl rfl).trans Tryz.func36
@[simp] def Lp.func37:Lp.funcs[37]?=some Tryz.f37:=(AK.same 37 rfl rfl).trans Tryz.func37
@[simp] def Lp.call37 (args:Array Ze)(w:Zc):(ZB 37 args).run Lp w=.ok (.enter 37 args) w:=Ap Lp 37 Lp.func37 rfl rfl args w
@[simp] def Lp.func40:Lp.funcs[40]?=some Tryz.f40:=(AK.same 40 rfl rfl).trans Tryz.func40
@[simp] def Lp.call40 (args:Array Ze)(w:Zc):(ZB 40 args).run Lp w=.ok (.enter 40 args) w:=Ap Lp 40 Lp.func40 rfl rfl args w
@[simp] def Lp.func41:Lp.funcs[41]?=some Tryz.f41:=(AK.same 41 rfl rfl).trans Tryz.func41
@[simp] def Lp.call41 (args:Array Ze)(w:Zc):(ZB 41 args).run Lp w=.ok (.enter 41 args) w:=Ap Lp 41 Lp.func41 rfl rfl args w
@[simp] def Lp.func43:Lp.funcs[43]?=some Tryz.f43:=(AK.same 43 rfl rfl).trans Tryz.func43
@[simp] def Lp.call43 (args:Array Ze)(w:Zc):(ZB 43 args).run Lp w=.ok (.enter 43 args) w:=Ap Lp 43 Lp.func43 rfl rfl args w
@[simp] def Lp.func44:Lp.funcs[44]?=some Tryz.f44:=(AK.same 44 rfl rfl).trans Tryz.func44
@[simp] def Lp.call44 (args:Array Ze)(w:Zc):(ZB 44 args).run Lp w=.ok (.enter 44 args) w:=Ap Lp 44 Lp.func44 rfl rfl args w
@[simp] def Lp.func45:Lp.funcs[45]?=some Tryz.f45:=(AK.same 45 rfl rfl).trans Tryz.func45
@[simp] def Lp.call45 (args:Array Ze)(w:Zc):(ZB 45 args).run Lp w=.ok (.enter 45 args) w:=Ap Lp 45 Lp.func45 rfl rfl args w
@[simp] def Lp.func46:Lp.funcs[46]?=some Tryz.f46:=(AK.same 46 rfl rfl).trans Tryz.func46
@[simp] def Lp.call46 (args:Array Ze)(w:Zc):(ZB 46 args).run Lp w=.ok (.enter 46 args) w:=Ap Lp 46 Lp.func46 rfl rfl args w
@[simp] def Lp.func47:Lp.funcs[47]?=some Tryz.f47:=(AK.same 47 rfl rfl).trans Tryz.func47
@[simp] def Lp.call47 (args:Array Ze)(w:Zc):(ZB 47 args).run Lp w=.ok (.enter 47 args) w:=Ap Lp 47 Lp.func47 rfl rfl args w
@[simp] def Lp.func51:Lp.funcs[51]?=some Tryz.f51:=(AK.same 51 rfl rfl).trans Tryz.func51
@[simp] def Lp.call51 (args:Array Ze)(w:Zc):(ZB 51 args).run Lp w=.ok (.enter 51 args) w:=Ap Lp 51 Lp.func51 rfl rfl args w
@[simp] def Lp.func52:Lp.funcs[52]?=some Tryz.f52:=(AK.same 52 rfl rfl).trans Tryz.func52
@[simp] def Lp.call52 (args:Array Ze)(w:Zc):(ZB 52 args).run Lp w=.ok (.enter 52 args) w:=Ap Lp 52 Lp.func52 rfl rfl args w
@[simp] def Lp.func53:Lp.funcs[53]?=some Tryz.f53:=(AK.same 53 rfl rfl).trans Tryz.func53
@[simp] def Lp.call53 (args:Array Ze)(w:Zc):(ZB 53 args).run Lp w=.ok (.enter 53 args) w:=Ap Lp 53 Lp.func53 rfl rfl args w
@[simp] def Lp.func54:Lp.funcs[54]?=some Tryz.f54:=(AK.same 54 rfl rfl).trans Tryz.func54
@[simp] def Lp.call54 (args:Array Ze)(w:Zc):(ZB 54 args).run Lp w=.ok (.enter 54 args) w:=Ap Lp 54 Lp.func54 rfl rfl args w
@[simp] def Lp.func55:Lp.funcs[55]?=some Tryz.f55:=(AK.same 55 rfl rfl).trans Tryz.func55
@[simp] def Lp.call55 (args:Array Ze)(w:Zc):(ZB 55 args).run Lp w=.ok (.enter 55 args) w:=Ap Lp 55 Lp.func55 rfl rfl args w
@[simp] def Lp.func56:Lp.funcs[56]?=some Tryz.f56:=(AK.same 56 rfl rfl).trans Tryz.func56
@[simp] def Lp.call56 (args:Array Ze)(w:Zc):(ZB 56 args).run Lp w=.ok (.enter 56 args) w:=Ap Lp 56 Lp.func56 rfl rfl args w
@[simp] def Lp.func59:Lp.funcs[59]?=some Tryz.f59:=(AK.same 59 rfl rfl).trans Tryz.func59
@[simp] def Lp.func61:Lp.funcs[61]?=some Tryz.f61:=(AK.same 61 rfl rfl).trans Tryz.func61
@[simp] def Lp.call61 (args:Array Ze)(w:Zc):(ZB 61 args).run Lp w=.ok (.enter 61 args) w:=Ap Lp 61 Lp.func61 rfl rfl args w
@[simp] def Lp.func62:Lp.funcs[62]?=some Tryz.f62:=(AK.same 62 rfl rfl).trans Tryz.func62
@[simp] def Lp.call62 (args:Array Ze)(w:Zc):(ZB 62 args).run Lp w=.ok (.enter 62 args) w:=Ap Lp 62 Lp.func62 rfl rfl args w
@[simp] def Lp.func69:Lp.funcs[69]?=some Tryz.f69:=(AK.same 69 rfl rfl).trans Tryz.func69
@[simp] def Lp.call69 (args:Array Ze)(w:Zc):(ZB 69 args).run Lp w=.ok (.enter 69 args) w:=Ap Lp 69 Lp.func69 rfl rfl args w
@[simp] def Lp.func84:Lp.funcs[84]?=some Tryz.f84:=(AK.same 84 rfl rfl).trans Tryz.func84
@[simp] def Lp.call84 (args:Array Ze)(w:Zc):(ZB 84 args).run Lp w=.ok (.enter 84 args) w:=Ap Lp 84 Lp.func84 rfl rfl args w
@[simp] def Lp.func85:Lp.funcs[85]?=some Tryz.f85:=(AK.same 85 rfl rfl).trans Tryz.func85
@[simp] def Lp.call85 (args:Array Ze)(w:Zc):(ZB 85 args).run Lp w=.ok (.enter 85 args) w:=Ap Lp 85 Lp.func85 rfl rfl args w
@[simp] def Lp.func86:Lp.funcs[86]?=some Tryz.f86:=(AK.same 86 rfl rfl).trans Tryz.func86
@[simp] def Lp.call86 (args:Array Ze)(w:Zc):(ZB 86 args).run Lp w=.ok (.enter 86 args) w:=Ap Lp 86 Lp.func86 rfl rfl args w
@[simp] def Lp.func87:Lp.funcs[87]?=some Tryz.f87:=(AK.same 87 rfl rfl).trans Tryz.func87
@[simp] def Lp.call87 (args:Array Ze)(w:Zc):(ZB 87 args).run Lp w=.ok (.enter 87 args) w:=Ap Lp 87 Lp.func87 rfl rfl args w
@[simp] def Lp.func88:Lp.funcs[88]?=some Tryz.f88:=(AK.same 88 rfl rfl).trans Tryz.func88
@[simp] def Lp.call88 (args:Array Ze)(w:Zc):(ZB 88 args).run Lp w=.ok (.enter 88 args) w:=Ap Lp 88 Lp.func88 rfl rfl args w
@[simp] def Lp.func89:Lp.funcs[89]?=some Tryz.f89:=(AK.same 89 rfl rfl).trans Tryz.func89
@[simp] def Lp.call89 (args:Array Ze)(w:Zc):(ZB 89 args).run Lp w=.ok (.enter 89 args) w:=Ap Lp 89 Lp.func89 rfl rfl args w
@[simp] def Lp.func90:Lp.funcs[90]?=some Tryz.f90:=(AK.same 90 rfl rfl).trans Tryz.func90
@[simp] def Lp.call90 (args:Array Ze)(w:Zc):(ZB 90 args).run Lp w=.ok (.enter 90 args) w:=Ap Lp 90 Lp.func90 rfl rfl args w
@[simp] def Lp.func92:Lp.funcs[92]?=some Tryz.f92:=(AK.same 92 rfl rfl).trans Tryz.func92
@[simp] def Lp.call92 (args:Array Ze)(w:Zc):(ZB 92 args).run Lp w=.ok (.enter 92 args) w:=Ap Lp 92 Lp.func92 rfl rfl args w
@[simp] def Lp.func97:Lp.funcs[97]?=some Tryz.f97:=(AK.same 97 rfl rfl).trans Tryz.func97
@[simp] def Lp.call97 (args:Array Ze)(w:Zc):(ZB 97 args).run Lp w=.ok (.enter 97 args) w:=Ap Lp 97 Lp.func97 rfl rfl args w
@[simp] def Lp.func98:Lp.funcs[98]?=some Tryz.f98:=(AK.same 98 rfl rfl).trans Tryz.func98
@[simp] def Lp.call98 (args:Array Ze)(w:Zc):(ZB 98 args).run Lp w=.ok (.enter 98 args) w:=Ap Lp 98 Lp.func98 rfl rfl args w
@[simp] def Lp.func99:Lp.funcs[99]?=some Tryz.f99:=(AK.same 99 rfl rfl).trans Tryz.func99
@[simp] def Lp.call99 (args:Array Ze)(w:Zc):(ZB 99 args).run Lp w=.ok (.enter 99 args) w:=Ap Lp 99 Lp.func99 rfl rfl args w
@[simp] def Lp.func100:Lp.funcs[100]?=some Tryz.f100:=(AK.same 100 rfl rfl).trans Tryz.func100
@[simp] def Lp.call100 (args:Array Ze)(w:Zc):(ZB 100 args).run Lp w=.ok (.enter 100 args) w:=Ap Lp 100 Lp.func100 rfl rfl args w
@[simp] def Lp.func101:Lp.funcs[101]?=some Tryz.f101:=(AK.same 101 rfl rfl).trans Tryz.func101
@[simp] def Lp.call101 (args:Array Ze)(w:Zc):(ZB 101 args).run Lp w=.ok (.enter 101 args) w:=Ap Lp 101 Lp.func101 rfl rfl args w
@[simp] def Lp.func102:Lp.funcs[102]?=some Tryz.f102:=(AK.same 102 rfl rfl).trans Tryz.func102
@[simp] def Lp.call102 (args:Array Ze)(w:Zc):(ZB 102 args).run Lp w=.ok (.enter 102 args) w:=Ap Lp 102 Lp.func102 rfl rfl args w
@[simp] def Lp.func103:Lp.funcs[103]?=some Tryz.f103:=(AK.same 103 rfl rfl).trans Tryz.func103
@[simp] def Lp.call103 (args:Array Ze)(w:Zc):(ZB 103 args).run Lp w=.ok (.enter 103 args) w:=Ap Lp 103 Lp.func103 rfl rfl args w
@[simp] def Lp.func105:Lp.funcs[105]?=some Tryz.f105:=(AK.same 105 rfl rfl).trans Tryz.func105
@[simp] def Lp.call105 (args:Array Ze)(w:Zc):(ZB 105 args).run Lp w=.ok (.enter 105 args) w:=Ap Lp 105 Lp.func105 rfl rfl args w
@[simp] def Lp.func106:Lp.funcs[106]?=some Tryz.f106:=(AK.same 106 rfl rfl).trans Tryz.func106
@[simp] def Lp.call106 (args:Array Ze)(w:Zc):(ZB 106 args).run Lp w=.ok (.enter 106 args) w:=Ap Lp 106 Lp.func106 rfl rfl args w
@[simp] def Lp.func110:Lp.funcs[110]?=some Tryz.f110:=(AK.same 110 rfl rfl).trans Tryz.func110
@[simp] def Lp.call110 (args:Array Ze)(w:Zc):(ZB 110 args).run Lp w=.ok (.enter 110 args) w:=Ap Lp 110 Lp.func110 rfl rfl args w
@[simp] def Lp.func111:Lp.funcs[111]?=some Tryz.f111:=(AK.same 111 rfl rfl).trans Tryz.func111
@[simp] def Lp.call111 (args:Array Ze)(w:Zc):(ZB 111 args).run Lp w=.ok (.enter 111 args) w:=Ap Lp 111 Lp.func111 rfl rfl args w
@[simp] def Lp.func112:Lp.funcs[112]?=some Tryz.f112:=(AK.same 112 rfl rfl).trans Tryz.func112
@[simp] def Lp.call112 (args:Array Ze)(w:Zc):(ZB 112 args).run Lp w=.ok (.enter 112 args) w:=Ap Lp 112 Lp.func112 rfl rfl args w
@[simp] def Lp.func113:Lp.funcs[113]?=some Tryz.f113:=(AK.same 113 rfl rfl).trans Tryz.func113
@[simp] def Lp.call113 (args:Array Ze)(w:Zc):(ZB 113 args).run Lp w=.ok (.enter 113 args) w:=Ap Lp 113 Lp.func113 rfl rfl args w
@[simp] def Lp.func119:Lp.funcs[119]?=some Tryz.f119:=(AK.same 119 rfl rfl).trans Tryz.func119
@[simp] def Lp.call119 (args:Array Ze)(w:Zc):(ZB 119 args).run Lp w=.ok (.enter 119 args) w:=Ap Lp 119 Lp.func119 rfl rfl args w
@[simp] def Lp.func120:Lp.funcs[120]?=some Tryz.f120:=(AK.same 120 rfl rfl).trans Tryz.func120
@[simp] def Lp.call120 (args:Array Ze)(w:Zc):(ZB 120 args).run Lp w=.ok (.enter 120 args) w:=Ap Lp 120 Lp.func120 rfl rfl args w
@[simp] def Lp.func121:Lp.funcs[121]?=some Tryz.f121:=(AK.same 121 rfl rfl).trans Tryz.func121
@[simp] def Lp.call121 (args:Array Ze)(w:Zc):(ZB 121 args).run Lp w=.ok (.enter 121 args) w:=Ap Lp 121 Lp.func121 rfl rfl args w
@[simp] def Lp.func122:Lp.funcs[122]?=some Tryz.f122:=(AK.same 122 rfl rfl).trans Tryz.func122
@[simp] def Lp.call122 (args:Array Ze)(w:Zc):(ZB 122 args).run Lp w=.ok (.enter 122 args) w:=Ap Lp 122 Lp.func122 rfl rfl args w
@[simp] def Lp.func123:Lp.funcs[123]?=some Tryz.f123:=(AK.same 123 rfl rfl).trans Tryz.func123
@[simp] def Lp.call123 (args:Array Ze)(w:Zc):(ZB 123 args).run Lp w=.ok (.enter 123 args) w:=Ap Lp 123 Lp.func123 rfl rfl args w
@[simp] def Lp.func124:Lp.funcs[124]?=some Tryz.f124:=(AK.same 124 rfl rfl).trans Tryz.func124
@[simp] def Lp.call124 (args:Array Ze)(w:Zc):(ZB 124 args).run Lp w=.ok (.enter 124 args) w:=Ap Lp 124 Lp.func124 rfl rfl args w
@[simp] def Lp.func126:Lp.funcs[126]?=some Tryz.f126:=(AK.same 126 rfl rfl).trans Tryz.func126
@[simp] def Lp.call126 (args:Array Ze)(w:Zc):(ZB 126 args).run Lp w=.ok (.enter 126 args) w:=Ap Lp 126 Lp.func126 rfl rfl args w
@[simp] def Lp.func134:Lp.funcs[134]?=some Tryz.f134:=(AK.same 134 rfl rfl).trans Tryz.func134
@[simp] def Lp.call134 (args:Array Ze)(w:Zc):(ZB 134 args).run Lp w=.ok (.enter 134 args) w:=Ap Lp 134 Lp.func134 rfl rfl args w
@[simp] def Lp.func136:Lp.funcs[136]?=some Tryz.f136:=(AK.same 136 rfl rfl).trans Tryz.func136
@[simp] def Lp.call136 (args:Array Ze)(w:Zc):(ZB 136 args).run Lp w=.ok (.enter 136 args) w:=Ap Lp 136 Lp.func136 rfl rfl args w
@[simp] def Lp.func139:Lp.funcs[139]?=some Tryz.f139:=(AK.same 139 rfl rfl).trans Tryz.func139
@[simp] def Lp.call139 (args:Array Ze)(w:Zc):(ZB 139 args).run Lp w=.ok (.enter 139 args) w:=Ap Lp 139 Lp.func139 rfl rfl args w
@[simp] def Lp.func143:Lp.funcs[143]?=some Tryz.f143:=(AK.same 143 rfl rfl).trans Tryz.func143
@[simp] def Lp.call143 (args:Array Ze)(w:Zc):(ZB 143 args).run Lp w=.ok (.enter 143 args) w:=Ap Lp 143 Lp.func143 rfl rfl args w
@[simp] def Lp.func144:Lp.funcs[144]?=some Tryz.f144:=(AK.same 144 rfl rfl).trans Tryz.func144
@[simp] def Lp.call144 (args:Array Ze)(w:Zc):(ZB 144 args).run Lp w=.ok (.enter 144 args) w:=Ap Lp 144 Lp.func144 rfl rfl args w
@[simp] def Lp.func145:Lp.funcs[145]?=some Tryz.f145:=(AK.same 145 rfl rfl).trans Tryz.func145
@[simp] def Lp.call145 (args:Array Ze)(w:Zc):(ZB 145 args).run Lp w=.ok (.enter 145 args) w:=Ap Lp 145 Lp.func145 rfl rfl args w
@[simp] def Lp.func150:Lp.funcs[150]?=some Tryz.f150:=(AK.same 150 rfl rfl).trans Tryz.func150
@[simp] def Lp.call150 (args:Array Ze)(w:Zc):(ZB 150 args).run Lp w=.ok (.enter 150 args) w:=Ap Lp 150 Lp.func150 rfl rfl args w
@[simp] def Lp.func151:Lp.funcs[151]?=some Tryz.f151:=(AK.same 151 rfl rfl).trans Tryz.func151
@[simp] def Lp.call151 (args:Array Ze)(w:Zc):(ZB 151 args).run Lp w=.ok (.enter 151 args) w:=Ap Lp 151 Lp.func151 rfl rfl args w
@[simp] def Lp.func152:Lp.funcs[152]?=some Tryz.f152:=(AK.same 152 rfl rfl).trans Tryz.func152
@[simp] def Lp.call152 (args:Array Ze)(w:Zc):(ZB 152 args).run Lp w=.ok (.enter 152 args) w:=Ap Lp 152 Lp.func152 rfl rfl args w
@[simp] def Lp.func153:Lp.funcs[153]?=some Tryz.f153:=(AK.same 153 rfl rfl).trans Tryz.func153
@[simp] def Lp.func154:Lp.funcs[154]?=some Tryz.f154:=(AK.same 154 rfl rfl).trans Tryz.func154
@[simp] def Lp.call154 (args:Array Ze)(w:Zc):(ZB 154 args).run Lp w=.ok (.enter 154 args) w:=Ap Lp 154 Lp.func154 rfl rfl args w
@[simp] def Lp.func159:Lp.funcs[159]?=some Tryz.f159:=(AK.same 159 rfl rfl).trans Tryz.func159
@[simp] def Lp.func161:Lp.funcs[161]?=some Tryz.f161:=(AK.same 161 rfl rfl).trans Tryz.func161
@[simp] def Lp.call161 (args:Array Ze)(w:Zc):(ZB 161 args).run Lp w=.ok (.enter 161 args) w:=Ap Lp 161 Lp.func161 rfl rfl args w
@[simp] def Lp.func162:Lp.funcs[162]?=some Tryz.f162:=(AK.same 162 rfl rfl).trans Tryz.func162
@[simp] def Lp.call162 (args:Array Ze)(w:Zc):(ZB 162 args).run Lp w=.ok (.enter 162 args) w:=Ap Lp 162 Lp.func162 rfl rfl args w
@[simp] def Lp.func166:Lp.funcs[166]?=some Tryz.f166:=(AK.same 166 rfl rfl).trans Tryz.func166
@[simp] def Lp.call166 (args:Array Ze)(w:Zc):(ZB 166 args).run Lp w=.ok (.enter 166 args) w:=Ap Lp 166 Lp.func166 rfl rfl args w
@[simp] def Lp.func167:Lp.funcs[167]?=some Tryz.f167:=(AK.same 167 rfl rfl).trans Tryz.func167
@[simp] def Lp.call167 (args:Array Ze)(w:Zc):(ZB 167 args).run Lp w=.ok (.enter 167 args) w:=Ap Lp 167 Lp.func167 rfl rfl args w
@[simp] def Lp.func168:Lp.funcs[168]?=some Tryz.f168:=(AK.same 168 rfl rfl).trans Tryz.func168
@[simp] def Lp.call168 (args:Array Ze)(w:Zc):(ZB 168 args).run Lp w=.ok (.enter 168 args) w:=Ap Lp 168 Lp.func168 rfl rfl args w
@[simp] def Lp.func187:Lp.funcs[187]?=some Tryz.f187:=(AK.same 187 rfl rfl).trans Tryz.func187
@[simp] def Lp.call187 (args:Array Ze)(w:Zc):(ZB 187 args).run Lp w=.ok (.enter 187 args) w:=Ap Lp 187 Lp.func187 rfl rfl args w
@[simp] def Lp.func91:Lp.funcs[91]?=some Rb:=Oj (by rw[F4];decide)
@[simp] def Lp.call91 (args:Array Ze)(w:Zc):(ZB 91 args).run Lp w=.ok (.enter 91 args) w:=Ap Lp 91 Lp.func91 (by decide) rfl args w
@[simp] def Lp.func104:Lp.funcs[104]?=some KH:=MB (by rw[F4];decide)
@[simp] def Lp.call104 (args:Array Ze)(w:Zc):(ZB 104 args).run Lp w=.ok (.enter 104 args) w:=Ap Lp 104 Lp.func104 (by decide) rfl args w
@[simp] def Lp.func155:Lp.funcs[155]?=some M7:=UT (by rw[F4];decide)
@[simp] def Lp.call155 (args:Array Ze)(w:Zc):(ZB 155 args).run Lp w=.ok (.enter 155 args) w:=Ap Lp 155 Lp.func155 (by decide) rfl args w
@[simp] def Lp.func156:Lp.funcs[156]?=some M6:=MC (by rw[F4];decide)
variable {t:Zr}
def CG {d:TypeDesc}(h:Tryz.prog.underlying t=some d):Lp.underlying t=some d:=(qZ t).trans h
def DC {i:TypeInfo}(h:Tryz.prog.info? t=some i):Lp.info? t=some i:=(jY t).trans h
end Go.Proofs.Fit
namespace Go.Proofs.Fit
open Go Go.RowKit
def Jx:(Tryz.prog.info? 3).map (fun i=>(i.zero,i.size,i.bytes))=some (some (.int .i64 0),1,8):=by kernel_rfl
def G3:(Tryz.prog.info? 22).map (fun i=>(i.zero,i.size,i.bytes))=some (some (.slice none 0 0),1,24):=by kernel_rfl
def M8:KH.ntmps=14:=rfl
def Pw:Rb.ntmps=14:=rfl
def f_:M7.ntmps=13:=rfl
def M9:M6.ntmps=40:=rfl
def Xq (cap:Array Ze):Ze:=.iface 1 (.func (.func 156) #[] cap)
def M_ (b:Nat):Ze:=.slice (some ⟨b,0,none⟩) 1 1
section
variable {P:Zp}
variable {w w' W w₁ wl:Zc}
variable {ops:Array Oper}
variable {rest:List Oper}
variable {o:Oper}
variable {a:Act}
variable {Q:Exit->Act->Zc->Prop}
def Ok (hgd:o.guard=none)(s x:ZbX)(t:Zr)
 (ho:o.op=.call {callee:=.builtin .append,args:= #[s,x],argTypes:= #[t,t]})
 (e:Zr) (i:TypeInfo) (z:Ze) (ht:P.underlying t=some (.slice e)) (hi:P.info? e=some i) (hz:i.zero=some z)
 (hs:a.eval s=.slice none 0 0) (ad:Addr) (n c:Nat) (news:List Ze) (hx:a.eval x=.slice (some ad) n c) (hl:news.length=n*i.size) (Ol:∀j v,news[j]?=some v->w.cell? (ad.add j)=some v)
 (h0:0<n) (h63:(n:Int)<=9223372036854775807) (h48:n*i.bytes<=281474976710656)
 (h:wpList P ops Q rest (a.put o.dst (.slice (some ⟨w.heap.size,0,none⟩) n (grownCap w n 0 e))) (w.drew.alloc (.cells (news.toArray++Zs z.cells (grownCap w n 0 e - n)) e))):wpList P ops Q (o::rest) a w:=by
 refine wpList_plain hgd fun _ hK=>?_;have BD:=run_append_nil (P:=P) w t o.type e i z ht hi hz ad n c news hl Ol h0 h63 h48;unfold ZbG ZbE;simp only[ho,Zbp,invoke,builtin,zm,Sem.run_pure,ZaB,Zcw,List.map_cons,List.map_nil,hs,hx,BD];exact hK _ _ h
end
@[simp] def run_panic_iface (Q:Zp)(t:Zr)(v:Ze)(w:Zc):(Instr.panic (.iface t v)).run Q w=.halt (.panic (.iface t v)) w:=rfl
def t3b:¬281474976710656<YG 1 0*Tryz.t3.bytes:=by decide+kernel
def Th (g l s:Ze)(w:Zc)(h1:(((zS 1 0 3).cut (w.tape w.drawn (.appendCap 1 0 3)):Int)==1)=true):
  Calls Lp 104 #[g,l,s] w fun e w'=>e=.panicked [{v:=Xq #[g,l,s,M_ w.heap.size],recovered:=false}]/\YS w.heap.size w w':=by
 have hb:=t3b;go_enter Lp.func104,M8;go_wp2;refine⟨rfl,rfl,?_⟩;exact(((Zg _ _).alloc (Zj _) _).alloc (by simp) _).drew
variable {w w' W w₁ wl:Zc}
variable {xs news UU VK:List Ze}
def Hn {base:Nat}{e:Zr}{size:Nat}{v:Ze}{n:Nat}(h:w.ownsRow base e size v n xs)(hb:YS w.heap.size w w'):w'.ownsRow base e size v n xs:=
 h.kept (row:=none) ⟨hb.os,hb.tape,hb.output,hb.size,fun k hk _=>hb.block k hk⟩ (by cases hv:v.ownBlock<;>simp)
def cB {base:Nat}{row:Option Nat}(hg:w.grownBy w' row)(hb:base<=w.heap.size)(hr:∀k,row=some k->base<=k):YS base w w':=
 ⟨hg.os,hg.tape,hg.output,hg.size,fun k hk=>hg.block k (by omega) fun e=>by have:=hr k e.symm;omega⟩
def q_ (w:Zc)(news:List Ze)(e:Zr):∀j u,news[j]?=some u->(w.alloc (.cells news.toArray e)).cell? ((⟨w.heap.size,0,none⟩:Addr).add j)=some u:=by
 intro j u hu;have anC:(⟨w.heap.size,0,none⟩:Addr).add j=⟨w.heap.size,j,none⟩:=by unfold Zcz;split<;>simp_all
 rw[anC,World.cell?_alloc_at _ _ _ _ rfl];simpa using hu
section
variable {P:Zp}
variable {ops:Array Oper}
variable {rest:List Oper}
variable {o:Oper}
variable {a:Act}
variable {Q:Exit->Act->Zc->Prop}
def G4 (hgd:o.guard=none)(s x:ZbX)(t:Zr)
 (ho:o.op=.call {callee:=.builtin .append,args:= #[s,x],argTypes:= #[t,t]})
 (base:Nat) (e:Zr) (i:TypeInfo) (z:Ze) (size bytes:Nat) (ht:P.underlying t=some (.slice e)) (hi:P.info? e=some i) (hz:i.zero=some z)
 (ahQ:i.size=size) (hby:i.bytes=bytes) (hzs:z.cells.size=size) (Ek:0<size)
 (v:Ze) (n:Nat) (xs:List Ze) (hs:a.eval s=v) (A3:W.ownsRow base e size v n xs)
 (ad:Addr) (news:List Ze) (cap:Nat) (had:ad=⟨W.heap.size,0,none⟩) (hx:a.eval x=.slice (some ad) 1 cap)
 (h:∀v' w',w'.ownsRow base e size v' (n+1) (xs++news)->YS base W w'->wpList P ops Q rest (a.put o.dst v') w')
 (hl:news.length=size) (h1:∀u∈news,u.oneCell'=true) (h63:n+1<=maxLen) (acr:(n+1)*bytes<=140737488355328) (j5:base<=W.heap.size):wpList P ops Q (o::rest) a (W.alloc (.cells news.toArray e)):=by
 subst had;refine Yj (w:=W.alloc (.cells news.toArray e)) hgd s x t ho base e i z size bytes ht hi hz ahQ hby hzs Ek v n xs hs (A3.alloc _) _ 1 cap news hx (by omega) (q_ W news e) h1 h63 acr (by simp;omega) fun v' w' h2 h3 _=>h v' w' h2 ?_;exact((Zg base W).alloc j5 _).trans (cB h3 (by simp;omega) fun k hk=>(A3.lt k hk).1)
end
def CM (a:Addr)(n:Nat):(a.add n).block=a.block:=by unfold Zcz;split<;>rfl
def E_ (b:Nat)(w w₁:Zc):Prop:=∀p v,p.block<b->w.cell? p=some v->w₁.cell? p=some v
variable {b ln lc lo hi l p g s r c K m0 m1:Nat}
def E_.trans {x y z:Zc}(h:E_ b x y)(k:E_ b y z):E_ b x z:=fun p v hp hc=>k p v hp (h p v hp hc)
def E_.below (h:YS w.heap.size w w₁)(hb:b<=w.heap.size):E_ b w w₁:=fun p v hp hc=>by
 rw[h.cell (Zm hp hb)];exact hc
structure Na (b:Nat)(w:Zc)(gc:Array Ze)(la:Option Addr)(ln lc:Nat)(sv:Ze)(rows:Nat->Ze)(fit:Nat->Bool):Prop where
 small:ln<=1000000
 cap:ln<=lc/\lc<=maxLen
 j6:gc.size=8
 there:∀i,i<ln->∃ad,la=some ad/\ad.block<b/\w.cell? (ad.add i)=some (rows i)
 row:∀i,i<ln->∃a n c,rows i=.slice a n c
 rh:∃a n c,sv=.slice a n c
 fits:∀i,i<ln->∀w₁,E_ b w w₁->Calls Lp 126 #[.agg gc,rows i,sv] w₁ fun e w₂=>e=.returned (.bool (fit i))/\YS w₁.heap.size w₁ w₂
variable {gc:Array Ze}
variable {la A0 A1:Option Addr}
variable {sv:Ze}
variable {fit:Nat->Bool}
def Na.Aw {rows:Nat->Ze}(h:Na b w gc la ln lc sv rows fit)(k:E_ b w w₁):Na b w₁ gc la ln lc sv rows fit:=
 ⟨h.small,h.cap,h.j6,fun i hi=>by
  obtain⟨ad,h1,h2,h3⟩:=h.there i hi;exact⟨ad,h1,h2,k _ _ (by rw[CM];exact h2) h3⟩,h.row,h.rh,fun i hi w₂ hw=>h.fits i hi w₂ (k.trans hw)⟩
def C_ (rows:Nat->Ze)(fit:Nat->Bool)(lo hi:Nat):List Ze:=((Zcv lo (hi - lo)).filter fit).map rows
section
variable {rows:Nat->Ze}{fit:Nat->Bool}
def Om (lo:Nat):C_ rows fit lo lo=[]:=by simp[C_]
def Ti {k:Nat}(h:lo<=k):C_ rows fit lo (k+1)=if fit k=true then C_ rows fit lo k++ [rows k] else C_ rows fit lo k:=by
 unfold C_;have e:k+1 - lo=(k - lo)+1:=by omega
 rw[e,List.range'_concat,List.filter_append,Zaa];have e2:lo+1*(k - lo)=k:=by omega
 rw[e2];by_cases hf:fit k=true<;>simp[hf]
def Ds:(C_ rows fit lo hi).length<=hi - lo:=by
 unfold C_;rw[Zbz];refine Zt (List.length_filter_le _ _) (by simp)
def gd {mid:Nat}(h1:lo<=mid)(h2:mid<=hi):C_ rows fit lo mid++C_ rows fit mid hi=C_ rows fit lo hi:=by
 unfold C_;rw[<-Zaa, <-List.filter_append]
 congr 2
 have e:hi - lo=(mid - lo)+(hi - mid):=by omega
 rw[e, <-List.range'_append_1]
 congr 2
 omega
end
def Tj (base lo k:Nat)(rows:Nat->Ze)(fit:Nat->Bool)(v:Ze)(wr:Zc):Prop:=wr.ownsRow base 22 1 v (C_ rows fit lo k).length (C_ rows fit lo k)
def DV {w1:Zc}(hb:YS W.heap.size W w1):(∀b o,b<W.heap.size->w1.cell? ⟨b,o,none⟩=W.cell? ⟨b,o,none⟩)/\(∀b o,b<W.heap.size->w1.frozen? ⟨b,o,none⟩=W.frozen? ⟨b,o,none⟩):=
 ⟨fun b o h=>hb.cell (p:=⟨b,o,none⟩) h,fun b o h=>hb.frozen (p:=⟨b,o,none⟩) h⟩
def anD {rows:Nat->Ze}(H:Na b w gc la ln lc sv rows fit)(G0:b<=w.heap.size):
  Calls Lp 155 #[.agg gc,.slice la ln lc,sv] w fun e w'=>∃v,e=.returned v/\Tj w.heap.size 0 ln rows fit v w'/\YS w.heap.size w w':=by
 obtain⟨i0,hi,Fo,DX,EI⟩:=zq G3;have Nb:=H.small;go_enter Lp.func155,f_;go_wp2
 go_loopw [3,5] (fun v i wr=>∃k:Nat,k<=ln/\i=.int .i64 k/\Tj w.heap.size 0 k rows fit v wr/\YS w.heap.size w wr) (fun _ i _=>ln - (ZdF i).toNat)
 case atStart=>exact⟨0,Zn _,rfl,by unfold Tj;rw[Om];exact zh _ _ _ _,Zg _ _⟩
 case round=>
  obtain⟨k,hk,rfl,A3,Dl⟩:=hrel;have Ek:=Dl.size;by_cases AA:k<ln
  .obtain⟨ad,rfl,EC,Oo⟩:=H.there k AA
   obtain⟨ra,rn,rc,hr⟩:=H.row k AA;have Jy:=H.fits k AA wr (E_.below Dl G0);have hc:wr.cell? (ad.add k)=some (.slice ra rn rc):=by rw[<-hr,Dl.cell (p:=ad.add k) (by rw[CM];omega)];exact Oo
   rw[hr]at Jy;clear Oo;have HS:=Zb (Ti (rows:=rows) (fit:=fit) (Zn k));have HR:=Zb hr;clear hr;cases VL:fit k with
   |true=>
    rw[VL]at Jy;have HF:=Zb VL;clear VL;have Bq:wr.ownsRow w.heap.size 22 1 u3 (C_ rows fit 0 k).length (C_ rows fit 0 k):=A3;clear A3;go_wp2_with (first
     |(go_at_call 126;refine Jy.mono ?_;rintro e w1 ⟨rfl,EJ⟩)
     |(at_builtin;refine G4 (P:=Lp) (W:=w1) rfl (.tmp 3) (.tmp 10) 27 rfl w.heap.size 22 i0 (.slice none 0 0) 1 24 (CG zY) (DC hi) Fo DX EI rfl (by decide) u3 _ _ rfl (Hn Bq EJ) ⟨w1.heap.size,0,none⟩ [.slice ra rn rc] 1 rfl rfl ?_ rfl ?c1 ?c2 ?c3 ?c4
       intro v' w2 CQ EA))
    case c1=>simp[Yv]
    case c2=>have:=Ds (rows:=rows) (fit:=fit) (lo:=0) (hi:=k);simp only[maxLen];omega
    case c3=>have:=Ds (rows:=rows) (fit:=fit) (lo:=0) (hi:=k);omega
    case c4=>have:=EJ.size;omega
    have h3:=HS.out;rw[if_pos HF.out,HR.out]at h3;have h4:Tj w.heap.size 0 (k+1) rows fit v' w2:=by unfold Tj;rw[h3];simpa using CQ
    have h5:YS w.heap.size w w2:=(Dl.trans (EJ.mono Ek)).trans EA;clear CQ EA h3 Bq Jy hc;go_wp2
    go_roundw
    case rel=>exact⟨k+1,by omega,by go_num,h4,h5⟩
    case measure=>simp[ZdF];omega
   |false=>
    rw[VL]at Jy;have HF:=Zb VL;clear VL;go_wp2_with (first|(go_at_call 126;refine Jy.mono ?_;rintro e w1 ⟨rfl,EJ⟩));have h3:=HS.out;rw[if_neg (by rw[HF.out];simp)]at h3;have h4:Tj w.heap.size 0 (k+1) rows fit u3 w1:=by unfold Tj;rw[h3];exact Hn A3 EJ
    have h5:YS w.heap.size w w1:=Dl.trans (EJ.mono Ek)
    go_roundw
    case rel=>exact⟨k+1,by omega,by go_num,h4,h5⟩
    case measure=>simp[ZdF];omega
  .have WY:k=ln:=by omega
   subst WY;go_wp2;go_ret;exact⟨_,rfl,A3,Dl⟩
variable {ops:Array Oper}
variable {rest:List Oper}
variable {o:Oper}
variable {a:Act}
variable {Q:Exit->Act->Zc->Prop}
def Fa {P:Zp}(hgd:o.guard=none)(s x:ZbX)(t:Zr)
 (ho:o.op=.call {callee:=.builtin .append,args:= #[s,x],argTypes:= #[t,t]})
 (e:Zr) (i:TypeInfo) (ht:P.underlying t=some (.slice e)) (hi:P.info? e=some i)
 (hs:a.eval s=.slice none 0 0) (A:Option Addr) (c:Nat) (hx:a.eval x=.slice A 0 c)
 (h:wpList P ops Q rest (a.put o.dst (.slice none 0 0)) w):wpList P ops Q (o::rest) a w:=by
 refine wpList_plain hgd fun _ hK=>?_;have BD:(Zar #[t,t] o.type #[.slice none 0 0,.slice A 0 c]).run P w=.ok (.slice none 0 0) w:=by
  cases A<;>simp[Zar,Zae ht,sizeOf,typeInfo,hi,ZcW,Zw]
  rfl
 unfold ZbG ZbE;simp only[ho,Zbp,invoke,builtin,zm,Sem.run_pure,ZaB,Zcw,List.map_cons,List.map_nil,hs,hx,BD];exact hK _ _ h
def acs (w:Zc)(xs:List Ze)(e:Ending)(w':Zc):Prop:=
 ∃w₁,YS w.heap.size w w₁/\(xs.length=0->e=.returned (.slice none 0 0)/\w'=w₁)/\
  (0<xs.length->e=.returned (.slice (some ⟨w₁.heap.size,0,none⟩) xs.length (grownCap w₁ xs.length 0 22))/\w'=w₁.drew.alloc (.cells (xs.toArray++Zs #[.slice none 0 0] (grownCap w₁ xs.length 0 22 - xs.length)) 22))
def cC {rows:Nat->Ze}(H:Na w.heap.size w gc la ln lc sv rows fit)(h1:(((zS 1 0 3).cut (w.tape w.drawn (.appendCap 1 0 3)):Int)==1)=false):
  Calls Lp 104 #[.agg gc,.slice la ln lc,sv] w (acs w (C_ rows fit 0 ln)):=by
 obtain⟨i0,hi,Fo,DX,EI⟩:=zq G3;have hb:=t3b;have Nb:=H.small;have KI:=Ds (rows:=rows) (fit:=fit) (lo:=0) (hi:=ln);have hW:∀W,YS w.heap.size w W->Calls Lp 155 #[.agg gc,.slice la ln lc,sv] W fun e w'=>∃v,e=.returned v/\Tj W.heap.size 0 ln rows fit v w'/\YS W.heap.size W w':=fun W hB=>anD (H.Aw (E_.below hB (Zj _))) hB.size;have ay2:∀u∈C_ rows fit 0 ln,u.oneCell'=true:=by
  intro u hu;unfold C_ at hu;obtain⟨i,hi,rfl⟩:=Zby.1 hu;have:=(List.mem_filter.1 hi).1;rw[List.mem_range']at this;obtain⟨j,hj,rfl⟩:=this;obtain⟨a,n,c,e⟩:=H.row (0+1*j) (by omega);rw[e];rfl
 have AW:∀W W',YS w.heap.size w W->YS W.heap.size W W'->YS w.heap.size w W':=fun W W' h k=>h.trans (k.mono h.size);generalize hxs:C_ rows fit 0 ln=xs at*;have hX:=Zb hxs;clear hxs;by_cases hz:xs.length=0
 .have hW0:∀W,YS w.heap.size w W->Calls Lp 155 #[.agg gc,.slice la ln lc,sv] W fun e w'=>∃A c,e=.returned (.slice A 0 c)/\YS w.heap.size w w':=fun W hB=>(hW W hB).mono fun e w' ⟨v,he,hs,hb⟩=>by
   have D5:w'.ownsRow W.heap.size 22 1 v (C_ rows fit 0 ln).length (C_ rows fit 0 ln):=hs;rw[hX.out,hz]at D5;rcases D5.2 with⟨rfl,_⟩|⟨g,cap,cur,rfl,_⟩
   .exact⟨_,_,he,AW _ _ hB hb⟩
   .exact⟨_,_,he,AW _ _ hB hb⟩
  clear hW;have HZ:=Zb hz;clear hz Fo DX EI;go_enter Lp.func104,M8;go_wp2_with (first
   |(go_at_call 155;refine(hW0 _ (((Zg _ _).alloc (Zj _) _).alloc (by simp) _).drew).mono ?_
     rintro e w1 ⟨A,c,rfl,EJ⟩)
   |(at_builtin;refine Fa (P:=Lp) (w:=w1) rfl (.const (.slice none 0 0)) (.tmp 11) 27 rfl 22 i0 (CG zY) (DC hi) rfl A c rfl ?_))
  all_goals go_ret
  all_goals exact⟨w1,EJ,fun _=>⟨rfl,rfl⟩,fun h=>absurd HZ.out (by omega)⟩
 .have oZ:∀W,YS w.heap.size w W->Calls Lp 155 #[.agg gc,.slice la ln lc,sv] W fun e w'=>∃ad c,e=.returned (.slice (some ad) xs.length c)/\YS w.heap.size w w'/\∀j v,xs[j]?=some v->w'.cell? (ad.add j)=some v:=fun W hB=>(hW W hB).mono fun e w' ⟨v,he,hs,hb⟩=>by
   have D5:w'.ownsRow W.heap.size 22 1 v (C_ rows fit 0 ln).length (C_ rows fit 0 ln):=hs;rw[hX.out]at D5;rcases D5.2 with⟨_,h0⟩|⟨g,cap,cur,rfl,_⟩
   .exact absurd h0 hz
   .exact⟨_,_,he,AW _ _ hB hb,D5.cells rfl⟩
  clear hW;have HP:=Zb (Nat.pos_of_ne_zero hz);clear hz;go_enter Lp.func104,M8;go_wp2_with (first
   |(go_at_call 155;refine(oZ _ (((Zg _ _).alloc (Zj _) _).alloc (by simp) _).drew).mono ?_
     rintro e w1 ⟨ad,c,rfl,EJ,Tk⟩)
   |(at_builtin;refine Ok (P:=Lp) (w:=w1) rfl (.const (.slice none 0 0)) (.tmp 11) 27 rfl 22 i0 (.slice none 0 0) (CG zY) (DC hi) Fo rfl ad xs.length c xs rfl (by rw[DX];simp) Tk HP.out (by omega) (by rw[EI];omega) ?_
     clear Tk))
  all_goals go_ret
  all_goals exact⟨w1,EJ,fun h=>absurd HP.out (by omega),fun _=>⟨rfl,rfl⟩⟩
def ahR (t:Array Ze)(h:t.size=8):∃a0 a1 a2 a3 a4 a5 a6 a7,t= #[a0,a1,a2,a3,a4,a5,a6,a7]:=by
 obtain⟨l⟩:=t
 match l,h with
 | [a0,a1,a2,a3,a4,a5,a6,a7],_=>exact⟨a0,a1,a2,a3,a4,a5,a6,a7,rfl⟩
def gh (a:Addr)(i j:Nat):(a.add i).add j=a.add (i+j):=by
 unfold Zcz;by_cases hi:i=0<;>by_cases hj:j=0<;>simp[hi,hj,Zb4]
def wB (wl:Zc)(p lo hi:Nat)(rows:Nat->Ze)(fit:Nat->Bool)(e:Ending)(w':Zc):Prop:=
 ∃v,e=.returned (.tuple #[v,.pointer (some ⟨p,0,none⟩)])/\Tj wl.heap.size lo hi rows fit v w'/\YS wl.heap.size wl w'
variable {ad:Addr}
variable {fz:Nat×Nat}
def acu {rows:Nat->Ze}(H:Na b wl gc (some ad) ln lc sv rows fit)(G0:b<=wl.heap.size)
 (hl:wl.cell? ⟨l,0,none⟩=some (.slice (some ad) ln lc)) (hp:wl.cell? ⟨p,0,none⟩=some (.int .i64 0)) (hg:wl.heap[g]?=some (.cells gc 112 fz)) (hs:wl.cell? ⟨s,0,none⟩=some sv):
  Calls Lp 156 (Fh l p g s) wl (wB wl p 0 (ln / 2) rows fit):=by
 obtain⟨i0,hi,Fo,DX,EI⟩:=zq G3;have Nb:=H.small;obtain⟨c0,c1,c2,c3,c4,c5,c6,c7,rfl⟩:=ahR gc H.j6;obtain⟨sa,sn,sc,rfl⟩:=H.rh;have abS:=H.cap;have Gx:maxLen=9223372036854775807:=rfl;have Oq:∀i v,(#[c0,c1,c2,c3,c4,c5,c6,c7]:Array Ze)[i]?=some v->wl.cell? ⟨g,i,none⟩=some v:=fun i v hv=>by rw[cell_of_row wl g i _ 112 fz hg];exact hv
 have Qu:g<wl.heap.size:=(Za.1 hg).1;have KI:s<wl.heap.size:=Zy wl _ hs;have q1:(ln:Int) / 2<=(lc:Int):=by omega
 have HH:=Zb H;clear hg;unfold Fh ptr;go_enter Lp.func156,M9;simp only[Ju,Gk,Zbd,Zx,lef,uC];go_wp2;clear hl hp
 go_loopw [6,23] (fun v i wr=>∃k:Nat,k<=ln / 2/\i=.int .i64 k/\Tj wl.heap.size 0 k rows fit v wr/\YS wl.heap.size wl wr) (fun _ i _=>ln / 2 - (ZdF i).toNat)
 case atStart=>exact⟨0,Zn _,rfl,by unfold Tj;rw[Om];exact zh _ _ _ _,Zg _ _⟩
 case round=>
  obtain⟨k,hk,rfl,A3,Dl⟩:=hrel;have Ek:=Dl.size;by_cases AA:k<ln / 2
  .obtain⟨ad',e,EC,Oo⟩:=H.there k (by omega)
   cases e;obtain⟨ra,rn,rc,hr⟩:=H.row k (by omega);have Jy:=H.fits k (by omega) wr (E_.below Dl G0);have hc:wr.cell? (ad.add k)=some (.slice ra rn rc):=by rw[<-hr,Dl.cell (p:=ad.add k) (by rw[CM];omega)];exact Oo
   rw[hr]at Jy;clear Oo;have HS:=Zb (Ti (rows:=rows) (fit:=fit) (Zn k));have HR:=Zb hr;clear hr;have g0:wr.cell? ⟨g,0,none⟩=some c0:=by rw[Dl.cell (p:=⟨g,0,none⟩) Qu];exact Oq 0 c0 rfl
   have g1:wr.cell? ⟨g,1,none⟩=some c1:=by rw[Dl.cell (p:=⟨g,1,none⟩) Qu];exact Oq 1 c1 rfl
   have g2:wr.cell? ⟨g,2,none⟩=some c2:=by rw[Dl.cell (p:=⟨g,2,none⟩) Qu];exact Oq 2 c2 rfl
   have g3:wr.cell? ⟨g,3,none⟩=some c3:=by rw[Dl.cell (p:=⟨g,3,none⟩) Qu];exact Oq 3 c3 rfl
   have g4:wr.cell? ⟨g,4,none⟩=some c4:=by rw[Dl.cell (p:=⟨g,4,none⟩) Qu];exact Oq 4 c4 rfl
   have g5:wr.cell? ⟨g,5,none⟩=some c5:=by rw[Dl.cell (p:=⟨g,5,none⟩) Qu];exact Oq 5 c5 rfl
   have g6:wr.cell? ⟨g,6,none⟩=some c6:=by rw[Dl.cell (p:=⟨g,6,none⟩) Qu];exact Oq 6 c6 rfl
   have g7:wr.cell? ⟨g,7,none⟩=some c7:=by rw[Dl.cell (p:=⟨g,7,none⟩) Qu];exact Oq 7 c7 rfl
   have D5:wr.cell? ⟨s,0,none⟩=some (.slice sa sn sc):=by rw[Dl.cell (p:=⟨s,0,none⟩) KI];exact hs
   have HGC:=Zb Oq;clear Oq hs H;cases VL:fit k with
   |true=>
    rw[VL]at Jy;have HF:=Zb VL;clear VL;have Bq:wr.ownsRow wl.heap.size 22 1 u6 (C_ rows fit 0 k).length (C_ rows fit 0 k):=A3;clear A3;go_wp2_with (first
     |(go_at_call 126;refine Jy.mono ?_;rintro e w1 ⟨rfl,EJ⟩)
     |(at_builtin;refine G4 (P:=Lp) (W:=w1) rfl (.tmp 31) (.tmp 33) 27 rfl wl.heap.size 22 i0 (.slice none 0 0) 1 24 (CG zY) (DC hi) Fo DX EI rfl (by decide) u6 _ _ rfl (Hn Bq EJ) ⟨w1.heap.size,0,none⟩ [.slice ra rn rc] 1 rfl rfl ?_ rfl ?c1 ?c2 ?c3 ?c4
       intro v' w2 CQ EA))
    case c1=>simp[Yv]
    case c2=>have:=Ds (rows:=rows) (fit:=fit) (lo:=0) (hi:=k);omega
    case c3=>have:=Ds (rows:=rows) (fit:=fit) (lo:=0) (hi:=k);omega
    case c4=>have:=EJ.size;omega
    have h3:=HS.out;rw[if_pos HF.out,HR.out]at h3;have h4:Tj wl.heap.size 0 (k+1) rows fit v' w2:=by unfold Tj;rw[h3];simpa using CQ
    have h5:YS wl.heap.size wl w2:=(Dl.trans (EJ.mono Ek)).trans EA;clear CQ EA h3 Bq Jy hc g0 g1 g2 g3 g4 g5 g6 g7 D5;go_wp2
    go_roundw
    case rel=>exact⟨k+1,by omega,by go_num,h4,h5⟩
    case measure=>simp[ZdF];omega
   |false=>
    rw[VL]at Jy;have HF:=Zb VL;clear VL;go_wp2_with (first|(go_at_call 126;refine Jy.mono ?_;rintro e w1 ⟨rfl,EJ⟩));have h3:=HS.out;rw[if_neg (by rw[HF.out];simp)]at h3;have h4:Tj wl.heap.size 0 (k+1) rows fit u6 w1:=by unfold Tj;rw[h3];exact Hn A3 EJ
    have h5:YS wl.heap.size wl w1:=Dl.trans (EJ.mono Ek)
    go_roundw
    case rel=>exact⟨k+1,by omega,by go_num,h4,h5⟩
    case measure=>simp[ZdF];omega
  .obtain rfl:k=ln / 2:=by omega
   clear H Oq;go_wp2
   (try simp only[ZdC,Exit.then])
   refine bodyPost_end (results_tmp2 rfl _ _ _) rfl ?_;exact⟨_,rfl,A3,Dl⟩
def acv {rows:Nat->Ze}(H:Na b wl gc (some ad) ln lc sv rows fit)(G0:b<=wl.heap.size)
 (hl:wl.cell? ⟨l,0,none⟩=some (.slice (some ad) ln lc)) (hp:wl.cell? ⟨p,0,none⟩=some (.int .i64 1)) (Tl:0<ln) (hg:wl.heap[g]?=some (.cells gc 112 fz)) (hs:wl.cell? ⟨s,0,none⟩=some sv):
  Calls Lp 156 (Fh l p g s) wl (wB wl p (ln / 2) ln rows fit):=by
 obtain⟨i0,hi,Fo,DX,EI⟩:=zq G3;have Nb:=H.small;obtain⟨c0,c1,c2,c3,c4,c5,c6,c7,rfl⟩:=ahR gc H.j6;obtain⟨sa,sn,sc,rfl⟩:=H.rh;have abS:=H.cap;have Gx:maxLen=9223372036854775807:=rfl;have Oq:∀i v,(#[c0,c1,c2,c3,c4,c5,c6,c7]:Array Ze)[i]?=some v->wl.cell? ⟨g,i,none⟩=some v:=fun i v hv=>by rw[cell_of_row wl g i _ 112 fz hg];exact hv
 have Qu:g<wl.heap.size:=(Za.1 hg).1;have KI:s<wl.heap.size:=Zy wl _ hs;have q1:(ln:Int) / 2<=(lc:Int):=by omega
 have q2:¬lc=ln / 2:=by omega
 have q3:(ln:Int) / 2<=(ln:Int):=by omega
 have q4:(ln:Int)<=(lc:Int):=by omega
 have HH:=Zb H;clear hg;unfold Fh ptr;go_enter Lp.func156,M9;simp only[Ju,Gk,Zbd,Zx,lef,uC];go_wp2;clear hl hp
 go_loopw [6,23] (fun v i wr=>∃k:Nat,k<=ln - ln / 2/\i=.int .i64 k/\Tj wl.heap.size (ln / 2) (ln / 2+k) rows fit v wr/\YS wl.heap.size wl wr) (fun _ i _=>ln - ln / 2 - (ZdF i).toNat)
 case atStart=>exact⟨0,Zn _,rfl,by unfold Tj;rw[Nat.add_zero,Om];exact zh _ _ _ _,Zg _ _⟩
 case round=>
  obtain⟨k,hk,rfl,A3,Dl⟩:=hrel;have Ek:=Dl.size;by_cases AA:k<ln - ln / 2
  .obtain⟨ad',e,EC,Oo⟩:=H.there (ln / 2+k) (by omega)
   cases e;obtain⟨ra,rn,rc,hr⟩:=H.row (ln / 2+k) (by omega);have Jy:=H.fits (ln / 2+k) (by omega) wr (E_.below Dl G0);have hc:wr.cell? ((ad.add (ln / 2)).add k)=some (.slice ra rn rc):=by rw[gh, <-hr,Dl.cell (p:=ad.add (ln / 2+k)) (by rw[CM];omega)];exact Oo
   rw[hr]at Jy;clear Oo;have HS:=Zb (Ti (rows:=rows) (fit:=fit) (show ln / 2<=ln / 2+k by omega));have HR:=Zb hr;clear hr;have g0:wr.cell? ⟨g,0,none⟩=some c0:=by rw[Dl.cell (p:=⟨g,0,none⟩) Qu];exact Oq 0 c0 rfl
   have g1:wr.cell? ⟨g,1,none⟩=some c1:=by rw[Dl.cell (p:=⟨g,1,none⟩) Qu];exact Oq 1 c1 rfl
   have g2:wr.cell? ⟨g,2,none⟩=some c2:=by rw[Dl.cell (p:=⟨g,2,none⟩) Qu];exact Oq 2 c2 rfl
   have g3:wr.cell? ⟨g,3,none⟩=some c3:=by rw[Dl.cell (p:=⟨g,3,none⟩) Qu];exact Oq 3 c3 rfl
   have g4:wr.cell? ⟨g,4,none⟩=some c4:=by rw[Dl.cell (p:=⟨g,4,none⟩) Qu];exact Oq 4 c4 rfl
   have g5:wr.cell? ⟨g,5,none⟩=some c5:=by rw[Dl.cell (p:=⟨g,5,none⟩) Qu];exact Oq 5 c5 rfl
   have g6:wr.cell? ⟨g,6,none⟩=some c6:=by rw[Dl.cell (p:=⟨g,6,none⟩) Qu];exact Oq 6 c6 rfl
   have g7:wr.cell? ⟨g,7,none⟩=some c7:=by rw[Dl.cell (p:=⟨g,7,none⟩) Qu];exact Oq 7 c7 rfl
   have D5:wr.cell? ⟨s,0,none⟩=some (.slice sa sn sc):=by rw[Dl.cell (p:=⟨s,0,none⟩) KI];exact hs
   have HGC:=Zb Oq;clear Oq hs H;cases VL:fit (ln / 2+k) with
   |true=>
    rw[VL]at Jy;have HF:=Zb VL;clear VL;have Bq:wr.ownsRow wl.heap.size 22 1 u6 (C_ rows fit (ln / 2) (ln / 2+k)).length (C_ rows fit (ln / 2) (ln / 2+k)):=A3;clear A3;go_wp2_with (first
     |(go_at_call 126;refine Jy.mono ?_;rintro e w1 ⟨rfl,EJ⟩)
     |(at_builtin;refine G4 (P:=Lp) (W:=w1) rfl (.tmp 31) (.tmp 33) 27 rfl wl.heap.size 22 i0 (.slice none 0 0) 1 24 (CG zY) (DC hi) Fo DX EI rfl (by decide) u6 _ _ rfl (Hn Bq EJ) ⟨w1.heap.size,0,none⟩ [.slice ra rn rc] 1 rfl rfl ?_ rfl ?c1 ?c2 ?c3 ?c4
       intro v' w2 CQ EA))
    case c1=>simp[Yv]
    case c2=>have:=Ds (rows:=rows) (fit:=fit) (lo:=ln / 2) (hi:=ln / 2+k);omega
    case c3=>have:=Ds (rows:=rows) (fit:=fit) (lo:=ln / 2) (hi:=ln / 2+k);omega
    case c4=>have:=EJ.size;omega
    have h3:=HS.out;rw[Zb4]at h3;rw[if_pos HF.out,HR.out]at h3;have h4:Tj wl.heap.size (ln / 2) (ln / 2+(k+1)) rows fit v' w2:=by unfold Tj;rw[h3];simpa using CQ
    have h5:YS wl.heap.size wl w2:=(Dl.trans (EJ.mono Ek)).trans EA;clear CQ EA h3 Bq Jy hc g0 g1 g2 g3 g4 g5 g6 g7 D5;go_wp2
    go_roundw
    case rel=>exact⟨k+1,by omega,by go_num,h4,h5⟩
    case measure=>simp[ZdF];omega
   |false=>
    rw[VL]at Jy;have HF:=Zb VL;clear VL;go_wp2_with (first|(go_at_call 126;refine Jy.mono ?_;rintro e w1 ⟨rfl,EJ⟩));have h3:=HS.out;rw[Zb4]at h3;rw[if_neg (by rw[HF.out];simp)]at h3;have h4:Tj wl.heap.size (ln / 2) (ln / 2+(k+1)) rows fit u6 w1:=by unfold Tj;rw[h3];exact Hn A3 EJ
    have h5:YS wl.heap.size wl w1:=Dl.trans (EJ.mono Ek)
    go_roundw
    case rel=>exact⟨k+1,by omega,by go_num,h4,h5⟩
    case measure=>simp[ZdF];omega
  .obtain rfl:k=ln - ln / 2:=by omega
   have e:ln / 2+(ln - ln / 2)=ln:=by omega
   rw[e]at A3;clear e;clear H Oq;go_wp2
   (try simp only[ZdC,Exit.then])
   refine bodyPost_end (results_tmp2 rfl _ _ _) rfl ?_;exact⟨_,rfl,A3,Dl⟩
def acw {rows:Nat->Ze}{k:Int}(hk:k=0\/k=1)
 (hl:wl.cell? ⟨l,0,none⟩=some (.slice la 0 lc)) (hp:wl.cell? ⟨p,0,none⟩=some (.int .i64 k)):
  Calls Lp 156 (Fh l p g s) wl (wB wl p 0 0 rows fit):=by
 have Gx:maxLen=9223372036854775807:=rfl;unfold Fh ptr;rcases hk with rfl|rfl<;>cases la
 all_goals
  go_enter Lp.func156,M9;simp only[Ju,Gk,Zbd,Zx,lef,uC];go_wp2;refine Zbl 1 ?_;rw[YN];go_wp2
  (try simp only[ZdC,Exit.then])
  refine bodyPost_end (results_tmp2 rfl _ _ _) rfl ?_;exact⟨_,rfl,by unfold Tj;rw[Om];exact zh _ _ _ _,Zg _ _⟩
def anF {rows:Nat->Ze}(H:Na b wl gc la ln lc sv rows fit)(G0:b<=wl.heap.size)(k:Nat)(hk:k<2)
 (hl:wl.cell? ⟨l,0,none⟩=some (.slice la ln lc)) (hp:wl.cell? ⟨p,0,none⟩=some (.int .i64 k)) (hg:wl.heap[g]?=some (.cells gc 112 fz)) (hs:wl.cell? ⟨s,0,none⟩=some sv):
  Calls Lp 156 (Fh l p g s) wl (wB wl p (k*ln / 2) ((k+1)*ln / 2) rows fit):=by
 by_cases h0:ln=0
 .subst h0
  have e1:k*0 / 2=0:=by omega
  have e2:(k+1)*0 / 2=0:=by omega
  rw[e1,e2];exact acw (k:=k) (by omega) hl hp
 .obtain⟨ad,rfl,_⟩:=H.there 0 (by omega)
  have JY:k=0\/k=1:=by omega
  rcases JY with rfl|rfl
  .have e1:0*ln / 2=0:=by omega
   have e2:(0+1)*ln / 2=ln / 2:=by omega
   rw[e1,e2];exact acu H G0 hl hp hg hs
  .have e1:1*ln / 2=ln / 2:=by omega
   have e2:(1+1)*ln / 2=ln:=by omega
   rw[e1,e2];exact acv H G0 hl hp (by omega) hg hs
def MD (b:Nat):∀(vs:List Ze) (o:Nat) (w:Zc) (cur:Array Ze) (e:Zr) (f:Nat×Nat),w.heap[b]?=some (.cells cur e f)->
  ∃gj:Array Ze,(w.setCells b o vs).heap[b]?=some (.cells gj e f)/\gj.size=cur.size/\(∀i,gj[i]?=if o<=i/\i<o+vs.length/\i<cur.size then vs[i - o]? else cur[i]?)/\
   (∀k,k≠b->(w.setCells b o vs).heap[k]?=w.heap[k]?)/\(w.setCells b o vs).heap.size=w.heap.size/\(w.setCells b o vs).os=w.os/\(w.setCells b o vs).tape=w.tape/\(w.setCells b o vs).output=w.output
 | [],o,w,cur,e,f,h=>⟨cur,h,rfl,fun i=>by rw[if_neg (by simp;omega)],fun _ _=>rfl,rfl,rfl,rfl,rfl⟩
 |v::r,o,w,cur,e,f,h=>by
  have h1:(w.setCell ⟨b,o,none⟩ v).heap[b]?=some (.cells (cur.setIfInBounds o v) e f):=by
   simp[zb,Zac,h]
  obtain⟨gj,a1,a2,a3,a4,a5,a6,a7,a8⟩:=MD b r (o+1) _ _ e f h1;refine⟨gj,a1,by rw[a2];simp,fun i=>?_,fun k hk=>(a4 k hk).trans (Zab w _ v k hk),by show((w.setCell ⟨b,o,none⟩ v).setCells b (o+1) r).heap.size=_;rw[a5];simp[zb],a6,a7,a8⟩;rw[a3 i];simp only[Array.size_setIfInBounds,zp];by_cases hi:i<cur.size
  .rcases Nat.lt_trichotomy i o with h2|h2|h2
   .rw[if_neg (by omega),if_neg (by omega),Zk (by omega)]
   .subst h2
    rw[if_neg (by omega),if_pos (by omega),Z5 hi];simp
   .by_cases h3:i<o+1+r.length
    .rw[if_pos (by omega),if_pos (by omega)]
     have:i - o=(i - (o+1))+1:=by omega
     rw[this,ZQ]
    .rw[if_neg (by omega),if_neg (by omega),Zk (by omega)]
  .rw[if_neg (by omega),if_neg (by omega)]
   rw[YX (by simp;omega),YX (by omega)]
abbrev UW:Ze:=.slice none 0 0
def Room (w:Zc)(r c:Nat)(xs:List Ze):Prop:=xs.length<=c/\w.heap[r]?=some (.cells (xs.toArray++YD (c - xs.length) UW) 22 (0,0))
def I7 (n:Nat):Zs #[UW] n=YD n UW:=by
 unfold Zs;apply Array.ext
 .simp
 .intro i h1 h2
  simp[Nat.mod_one]
def Room.cell (h:Room w r c xs)(i:Nat):w.cell? ⟨r,i,none⟩=(xs.toArray++YD (c - xs.length) UW)[i]? :=cell_of_row w r i _ 22 (0,0) h.2
section
variable {P:Zp}
def Room.put (h:Room w r c xs)(hc:xs.length+news.length<=c):Room (w.setCells r xs.length news) r c (xs++news)/\(∀k,k≠r->(w.setCells r xs.length news).heap[k]?=w.heap[k]?)/\(w.setCells r xs.length news).heap.size=w.heap.size/\(w.setCells r xs.length news).os=w.os/\(w.setCells r xs.length news).tape=w.tape/\(w.setCells r xs.length news).output=w.output:=by
 obtain⟨gj,a1,a2,a3,a4⟩:=MD r news xs.length w _ _ _ h.2;refine⟨⟨by rw[ZF];exact hc,?_⟩,a4⟩;rw[a1]
 congr 2
 have hs:(xs.toArray++YD (c - xs.length) UW).size=c:=by simp;omega
 apply Array.ext
 .rw[a2,hs];simp;omega
 .intro i h1 h2
  have:=a3 i;rw[hs]at this;have hi:i<c:=by rw[a2,hs]at h1;exact h1
  rw[<-Option.some_inj, <-ZC h1, <-ZC h2,this];by_cases h3:xs.length<=i
  .by_cases h4:i<xs.length+news.length
   .rw[if_pos ⟨h3,h4,hi⟩,zv (by simp;omega)]
    simp[zx h3]
   .rw[if_neg (by omega),Zaq (by simp;omega),Zaq (by simp;omega)]
    simp only[Array.getElem?_replicate];rw[if_pos (by simp;omega),if_pos (by simp;omega)]
  .rw[if_neg (by omega),zv (by simp;omega),zv (by simp;omega)]
   simp[Z4 (show i<xs.length by omega)]
def Px (hi:∃i,P.info? 22=some i/\i.size=1)(ht:P.underlying 27=some (.slice 22))(ty:Zr)(h:Room w r c xs)(A:Option Addr)(m mc:Nat)(hl:news.length=m)(hc:xs.length+m<=c)
 (Ol:∀j u,news[j]?=some u->∃ad,A=some ad/\w.cell? (ad.add j)=some u) (h1:∀u∈news,u.oneCell'=true):
  (Zar #[27,27] ty #[.slice (some ⟨r,0,none⟩) xs.length c,.slice A m mc]).run P w=.ok (.slice (some ⟨r,0,none⟩) (xs.length+m) c) (w.setCells r xs.length news):=by
 obtain⟨i,hi,hz⟩:=hi;subst hl;cases A with
 |none=>
  have:news=[]:=by
   cases news with
   |nil=>rfl
   |cons x l=>obtain⟨ad,h,_⟩:=Ol 0 x rfl;cases h
  subst this;simp[Zar,Zae ht,sizeOf,typeInfo,hi,ZcW,Zw,h.1,Zb3,World.setCells]
 |some ad=>
  have hr:=run_append_room_cells (P:=P) w 27 ty 22 i ht hi r 0 xs.length c ad news.length mc news (by rw[hz];omega) (fun j u hu=>by
   obtain⟨ad',e,hc⟩:=Ol j u hu;cases e;exact hc) h1 hc (fun j hj=>by
    rw[hz,h.cell,ZC (by simp;omega)]
    rfl) (fun j hj=>by
    unfold Yy;rw[h.2];simp)
  rw[hr,hz];simp
end
def ahS:Tryz.t22.bytes=24:=by decide+kernel
def anG (n:Nat)(w:Zc)(hn:0<n)(hs:n<=1000000):
  Calls Lp 187 #[.slice none 0 0,.int .i64 n] w fun e w'=>∃c,e=.returned (.slice (some ⟨w.heap.size,0,none⟩) 0 c)/\n<=c/\c<=maxLen/\Room w' w.heap.size c []/\YS w.heap.size w w':=by
 have b1:¬281474976710656<YG n 0*Tryz.t22.bytes:=by rw[ahS,nextslicecap_zero hn];omega
 have b2:¬281474976710656<(n:Int)*(Tryz.t22.bytes:Int):=by rw[ahS];omega
 have b3:¬n=0:=by omega
 have b4:decide ((0:Int)<(n:Int))=true:=by simpa using hn
 go_enter Lp.func187,Tryz.ntmps187;go_wp2;go_ret;refine⟨_,rfl,?_,?_,?_,?_⟩
 .exact grownCap_ge w n 0 22
 .exact grownCap_le_maxLen w n 0 22 (by simp only[maxLen];omega)
 .refine⟨Zn _,?_⟩
  have hge:=grownCap_ge w n 0 22;have e:((w.alloc (ZbM (Zs #[UW] n++Zs #[UW] ((zS n 0 22).cut (w.tape w.drawn (zS n 0 22)) - n)) 22)).drew).heap[w.heap.size]?=some (.cells (Zs #[UW] n++Zs #[UW] (grownCap w n 0 22 - n)) 22 (0,0)):=heap_alloc_new w _;rw[e,I7,I7]
  congr 2
  apply Array.ext
  .simp[grownCap]at hge⊢;omega
  .intro i h1 h2
   simp
 .exact((Zg _ _).alloc (Zj _) _).drew
section
variable {P:Zp}
def G' (hgd:o.guard=none)(s x:ZbX)
 (ho:o.op=.call {callee:=.builtin .append,args:= #[s,x],argTypes:= #[27,27]}) (hi:∃i,P.info? 22=some i/\i.size=1) (ht:P.underlying 27=some (.slice 22))
 (r c n:Nat) (xs:List Ze) (h:Room w r c xs) (hn:n=xs.length) (hs:a.eval s=.slice (some ⟨r,0,none⟩) n c) (A:Option Addr) (m mc:Nat) (news:List Ze) (hx:a.eval x=.slice A m mc)
 (hK:∀w',Room w' r c (xs++news)->(∀B,B<=r->YS B w w')->wpList P ops Q rest (a.put o.dst (.slice (some ⟨r,0,none⟩) (n+m) c)) w')
 (hl:news.length=m) (hc:n+m<=c) (Ol:∀j u,news[j]?=some u->∃ad,A=some ad/\w.cell? (ad.add j)=some u) (h1:∀u∈news,u.oneCell'=true):wpList P ops Q (o::rest) a w:=by
 subst hn;refine wpList_plain hgd fun _ hK'=>?_;have BD:=Px (P:=P) hi ht o.type h A m mc hl hc Ol h1;obtain⟨p1,p2,p3,p4,p5,p6⟩:=h.put (news:=news) (by omega);unfold ZbG ZbE;simp only[ho,Zbp,invoke,builtin,zm,Sem.run_pure,ZaB,Zcw,List.map_cons,List.map_nil,hs,hx,BD];exact hK' _ _ (hK _ p1 fun B hB=>⟨p4,p5,p6,ZcT p3.symm,fun k hk=>p2 k (by omega)⟩)
end
def acx (wl:Zc)(xs:List Ze)(e:Ending)(w':Zc):Prop:=
 YS wl.heap.size wl w'/\(xs.length=0->e=.returned (.slice none 0 0))/\(0<xs.length->∃r c,e=.returned (.slice (some ⟨r,0,none⟩) xs.length c)/\wl.heap.size<=r/\c<=maxLen/\Room w' r c xs)
def Lj (w:Zc)(A:Option Addr)(xs:List Ze):Prop:=∀j u,xs[j]?=some u->∃ad,A=some ad/\ad.block<w.heap.size/\w.cell? (ad.add j)=some u
def Lj.below {A:Option Addr}(h:Lj w A xs)(hb:YS w.heap.size w w'):∀j u,xs[j]?=some u->∃ad,A=some ad/\w'.cell? (ad.add j)=some u:=fun j u hu=>by
 obtain⟨ad,h1,h2,h3⟩:=h j u hu;exact⟨ad,h1,by rw[hb.cell (p:=ad.add j) (by rw[CM];exact h2)];exact h3⟩
def acy (h0:wl.cell? ⟨K,0,none⟩=some (.slice A0 UU.length m0))(h1:wl.cell? ⟨K,1,none⟩=some (.slice A1 VK.length m1))(Ll:Lj wl A0 UU)(O5:Lj wl A1 VK)
 (o0:∀u∈UU,u.oneCell'=true) (o1:∀u∈VK,u.oneCell'=true) (hs:UU.length+VK.length<=1000000) (hp:0<UU.length+VK.length):
  Calls Lp 159 #[.slice (some ⟨K,0,none⟩) 2 2] wl (acx wl (UU++VK)):=by
 have hi:∃i,Lp.info? 22=some i/\i.size=1:=by
  obtain⟨i0,hi,_,h,_⟩:=zq G3;exact⟨i0,DC hi,h⟩
 have hG:∀W,Calls Lp 187 #[.slice none 0 0,.int .i64 ((UU.length:Int)+(VK.length:Int))] W fun e w'=>∃c,e=.returned (.slice (some ⟨W.heap.size,0,none⟩) 0 c)/\UU.length+VK.length<=c/\c<=maxLen/\Room w' W.heap.size c []/\YS W.heap.size W w':=fun W=>by
  have:=anG (UU.length+VK.length) W hp hs;rwa[Int.natCast_add]at this
 have HX:=Zb (ZX Ll O5);have HO:=Zb (ZX o0 o1);clear Ll O5 o0 o1;have hKl:K<wl.heap.size:=Zy wl _ h0;go_enter Lp.func159,Tryz.ntmps159;go_wp2;refine Zbl 3 ?_;rw[YN];go_wp2;rw[YN];go_wp2;rw[YN];go_wp2_with (go_at_call 187;refine(hG _).mono ?_;rintro e w1 ⟨c,rfl,NC,ND,wC,EJ⟩);have k0:w1.cell? ⟨K,0,none⟩=some (.slice A0 UU.length m0):=by rw[EJ.cell (p:=⟨K,0,none⟩) hKl];exact h0
 have k1:w1.cell? ⟨K,1,none⟩=some (.slice A1 VK.length m1):=by rw[EJ.cell (p:=⟨K,1,none⟩) hKl];exact h1
 have HR0:=Zb wC;clear wC h0 h1;refine Zbl 3 ?_;rw[YN];go_wp2_with (at_builtin;refine G' (P:=Lp) (w:=w1) rfl (.tmp 31) (.tmp 32) rfl hi (CG zY) wl.heap.size c 0 [] HR0.out rfl rfl A0 UU.length m0 UU rfl ?_ rfl (by omega) ?d1 HO.out.1;intro w2 aE EA)
 case d1=>exact HX.out.1.below EJ
 have Xr:=EA wl.heap.size (Zj _);have Uv:YS wl.heap.size wl w2:=EJ.trans Xr;have k2:w2.cell? ⟨K,1,none⟩=some (.slice A1 VK.length m1):=by rw[Xr.cell (p:=⟨K,1,none⟩) hKl];exact k1
 simp only[zZ]at aE;have HR1:=Zb aE;clear aE EA Xr k0 k1;rw[YN];go_wp2_with (at_builtin;refine G' (P:=Lp) (w:=w2) rfl (.tmp 31) (.tmp 32) rfl hi (CG zY) wl.heap.size c UU.length UU HR1.out rfl rfl A1 VK.length m1 VK rfl ?_ rfl (by omega) ?d2 HO.out.2;intro w3 QX wD)
 case d2=>exact HX.out.2.below Uv
 have Xt:YS wl.heap.size wl w3:=Uv.trans (wD wl.heap.size (Zj _));have mK:=Zb QX;clear QX wD k2;rw[YN];go_wp2;go_ret;refine⟨Xt,fun h=>absurd h (by rw[ZF];omega),fun _=>⟨wl.heap.size,c,?_,Zj _,ND,mK.out⟩⟩;rw[ZF];rfl
def acz (w:Zc):Calls Lp 187 #[.slice none 0 0,.int .i64 0] w fun e w'=>e=.returned (.slice none 0 0)/\w=w':=by
 go_enter Lp.func187,Tryz.ntmps187;go_wp2;go_ret;exact⟨rfl,rfl⟩
def acA (h0:wl.cell? ⟨K,0,none⟩=some (.slice A0 0 m0))(h1:wl.cell? ⟨K,1,none⟩=some (.slice A1 0 m1)):
  Calls Lp 159 #[.slice (some ⟨K,0,none⟩) 2 2] wl (acx wl []):=by
 obtain⟨i0,hi,_,_,_⟩:=zq G3;go_enter Lp.func159,Tryz.ntmps159;go_wp2;refine Zbl 3 ?_;rw[YN];go_wp2;rw[YN];go_wp2;rw[YN];go_wp2_with (go_at_call 187;refine(acz _).mono ?_;rintro e w1 ⟨rfl,rfl⟩);refine Zbl 3 ?_;rw[YN];go_wp2_with (at_builtin;refine Fa (P:=Lp) (w:=wl) rfl (.tmp 31) (.tmp 32) 27 rfl 22 i0 (CG zY) (DC hi) rfl A0 m0 rfl ?_);rw[YN];go_wp2_with (at_builtin;refine Fa (P:=Lp) (w:=wl) rfl (.tmp 31) (.tmp 32) 27 rfl 22 i0 (CG zY) (DC hi) rfl A1 m1 rfl ?_);rw[YN];go_wp2;go_ret;exact⟨Zg _ _,fun _=>rfl,fun h=>absurd h (by simp)⟩
def anH (h0:wl.cell? ⟨K,0,none⟩=some (.slice A0 UU.length m0))(h1:wl.cell? ⟨K,1,none⟩=some (.slice A1 VK.length m1))(Ll:Lj wl A0 UU)(O5:Lj wl A1 VK)
 (o0:∀u∈UU,u.oneCell'=true) (o1:∀u∈VK,u.oneCell'=true) (hs:UU.length+VK.length<=1000000):
  Calls Lp 159 #[.slice (some ⟨K,0,none⟩) 2 2] wl (acx wl (UU++VK)):=by
 by_cases hp:0<UU.length+VK.length
 .exact acy h0 h1 Ll O5 o0 o1 hs hp
 .have e0:UU=[]:=YR (by omega)
  have e1:VK=[]:=YR (by omega);subst e0 e1;exact acA h0 h1
def Py (e t:Ze)(w:Zc)(h1:(((zS 1 0 3).cut (w.tape w.drawn (.appendCap 1 0 3)):Int)==1)=true):
  Calls Lp 91 #[e,t] w fun e' w'=>e'=.panicked [{v:=Xq #[e,t,M_ w.heap.size],recovered:=false}]/\YS w.heap.size w w':=by
 have hb:=t3b;go_enter Lp.func91,Pw;go_wp2;refine⟨rfl,rfl,?_⟩;exact(((Zg _ _).alloc (Zj _) _).alloc (by simp) _).drew
def j7 (t:Ze)(w:Zc)(h1:(((zS 1 0 3).cut (w.tape w.drawn (.appendCap 1 0 3)):Int)==1)=false):
  Calls Lp 91 #[.nilIface,t] w fun e' w'=>e'=.returned (.bool false)/\YS w.heap.size w w':=by
 have hb:=t3b;go_enter Lp.func91,Pw;go_wp2;go_ret;exact⟨rfl,(((Zg _ _).alloc (Zj _) _).alloc (by simp) _).drew⟩
def acB (n:Int)(w:Zc):(ZbA (.iface 121 (.agg #[.int .i64 n])) 117 121 false).run Lp w=.ok (.agg #[.int .i64 n]) w:=by kernel_rfl
def acC (a:Addr)(w:Zc):(ZbA (.iface 123 (.pointer (some a))) 20 123 false).run Lp w=.ok (.pointer (some a)) w:=by kernel_rfl
def j8 (n m:Int)(t:Nat)(w:Zc)(h1:(((zS 1 0 3).cut (w.tape w.drawn (.appendCap 1 0 3)):Int)==1)=false)(ht:w.heap[t]?=some (.cells #[.int .i64 m] 121 (0,0))):
  Calls Lp 91 #[.iface 121 (.agg #[.int .i64 n]),.iface 123 (.pointer (some ⟨t,0,none⟩))] w fun e' w'=>e'=.returned (.bool true)/\YS w.heap.size (w.setCell ⟨t,0,none⟩ (.int .i64 n)) w':=by
 have hb:=t3b;have x1:=acB;have x2:=acC;have O2:t<w.heap.size:=(Za.1 ht).1;have hc:w.cell? ⟨t,0,none⟩=some (.int .i64 m):=by unfold zG;rw[ht];rfl
 have hf:w.frozen? ⟨t,0,none⟩=false:=by unfold Yy;rw[ht];simp
 clear ht;go_enter Lp.func91,Pw;go_wp2;go_ret;exact⟨rfl,(((Zg _ _).alloc (by simp) _).alloc (by simp) _).drew⟩
end Go.Proofs.Fit
