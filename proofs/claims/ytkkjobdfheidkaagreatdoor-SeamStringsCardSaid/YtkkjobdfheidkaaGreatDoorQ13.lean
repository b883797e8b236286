/- SeamStrings: for all arguments of the row's types, on every schedule and without a data race, the law returns true, and the arguments read afterwards as they read before. Conditions: those of the given row alone (the variable errors.errorType starts as the program's text lays it; the card ties that to the text). -/
import Derived.Test.YtkkjobdfheidkaaGreatDoorQ08
import Derived.Test.YtkkjobdfheidkaaGreatDoorQ11
import Derived.Test.YtkkjobdfheidkaaGreatDoorQ10b
import Derived.Lib.MinMax
set_option maxRecDepth 100000
set_option maxHeartbeats 6400000
noncomputable section
set_option linter.all false
open And renaming intro->ZY
open Array renaming replicate->Yu,length_toList->Zd2,getElem?_eq_getElem->Zx,getElem?_eq_some_iff->Za,mem_of_getElem?->zY
open Bool renaming and_eq_true->ZF
open Go renaming Value->Zf,World->Zb,callFunc->Zz,TypeId->Zs,Program->Zo,FuncId->ZaQ,YieldsIf->ZbF,wpOp_mono->Zcc,wp_region_any->Zd5,execOp->Zby,wpQuiet_nil->Z4
open Go.Act renaming put->Zck
open Go.Code renaming region->zU
open Go.DataW renaming TrodAll->Za9
open Go.Instr renaming slice->ZbI
open Go.IntKind renaming wrap_i64->zE
open Go.Lib renaming hid->Zd
open Go.Op renaming stringOp->ZcJ
open Go.OpenSpec renaming ofChange->ZbV
open Go.Oper renaming semAt_some->Zdk,wp->ZbA,upon_value->Zdi,upon_enter->Zdj
open Go.Proofs.Tryz renaming prog->Zc,underlying22->YE,underlying166->Zb2
open Go.Region renaming Mode->YO,ready->zs,free->Za3,noSelect->YF,wanted->Yf
open Go.RowKit renaming Below->YH
open Go.RowKit.Below renaming refl->Zh
open Go.Value renaming okWide->Zbk,int->ZL
open Go.World renaming size_alloc->ZB,block_lt_of_cell?->ZH
open List renaming getElem?_eq_getElem->zf,mem_of_getElem?->Z3,mem_singleton->Yh,getElem?_toArray->ZG,range->Yr,range'->Zcq,getD_eq_getElem?_getD->Y6,nil_append->zP,length_set->ZcC,length_cons->zb,filterMap_cons->Z6,filterMap_nil->zd,getElem?_cons_succ->ZD,getElem?_cons_zero->ZC,getElem?_map->YL,getElem?_eq_some_iff->Zm,all_eq_true->Zdm
open Nat renaming le_refl->Zj,zero_add->zN,zero_le->Zp,le_trans->Zr,lt_of_lt_of_le->Zl
open Option renaming bind_eq_some_iff->ZX
open Option.some renaming inj->ZW
open UInt8 renaming ofNat->Zcn
namespace Go.Proofs.Fit
open Go
@[simp] def Lp.func22:=l! Tryz.func22
@[simp] def Lp.call27:=c! Lp.func27
@[simp] def Lp.func80:=l! Tryz.func80
@[simp] def Lp.call80:=c! Lp.func80
@[simp] def Lp.func81:=l! Tryz.func81
@[simp] def Lp.call81:=c! Lp.func81
@[simp] def Lp.func141:=l! Tryz.func141
@[simp] def Lp.call141:=c! Lp.func141
@[simp] def Lp.func142:=l! Tryz.func142
@[simp] def Lp.call142:=c! Lp.func142
end Go.Proofs.Fit
namespace Go.Proofs.Fit
open Go Go.Conc Go.FA Go.RowKit
variable {W w A B w':Zb}
variable {v:Zf}
variable {k aa1 rr ww i:Nat}
def ad0 {a:Addr}{n c:Nat}(h:W.cell? (a.add k)=some v):VR (Qk W) (.slice (some a) n c) (.slice (some a) n c):=by
 obtain⟨_,_,_,b⟩:=Sp h;rw[CF]at b;exact .slice n c ⟨pA b,rfl,rfl⟩
end Go.Proofs.Fit
namespace Go.Proofs.Fit
open Go
def n22:Tryz.f22.ntmps=109:=rfl
def n80:Tryz.f80.ntmps=57:=rfl
def n81:Tryz.f81.ntmps=110:=rfl
def aff:Tryz.f141.ntmps=12:=rfl
def aeF:Tryz.f142.ntmps=65:=rfl
end Go.Proofs.Fit
namespace Go.Proofs.Fit
open Go Go.Conc Go.FA Go.ChangeShapes Go.WideShapes Go.RowKit
set_option maxRecDepth 100000
def Nr (w:Zb)(v:Zf):Prop:=(∃n c,v=.slice none n c)\/(∃a,v=.slice (some a) 0 0)\/∃a n c k u,v=.slice (some a) n c/\w.cell? (a.add k)=some u
variable {W w A B w':Zb}
variable {v:Zf}
def Nr.aa0 (h:Nr W v):VR (Qk W) v v:=by
 rcases h with⟨n,c,rfl⟩|⟨a,rfl⟩|⟨a,n,c,k,u,rfl,h⟩
 .exact .slice (a:=none) n c trivial
 .exact .void _ _
 exact ad0 h
section
variable {H:Type}{enc:Zs×Zf->H}{P:Zo}{w:Zb}{base:Nat}{held:Bool}{α:Type}
variable {t:Zs}
variable {k aa1 rr ww i:Nat}
def reads_held {e:Zs}{R:Zb->List Zf->α->Prop}(ht:P.underlying t=some (.slice e))(s:P.cellsOf e=k)(hp:0<k)(h:Reads enc P w base (λ_=>true) held e R):
  Reads enc P w base (λ_=>true) held t (λw cs (l:List α)=>∃v,cs=[v]/\Sl (Lv w) R k w v l/\Nr w v):=by
 intro n cs y m;obtain⟨l,v,rfl,r⟩:=bW ht s hp h n cs y m;refine⟨l,v,rfl,r,?_⟩;rcases DataW.trod_slice ht m with⟨e,_⟩|⟨a,b,c,g,j,p,_,e,_,_,q,_,o,d,z,_⟩
 .cases e;exact .inl ⟨_,_,rfl⟩
 cases e;by_cases x:c=0
 .obtain rfl:b=0:=by omega
  subst x;exact .inr (.inl ⟨_,rfl⟩)
 have go:∀i:Nat,(∃y,(w.cells? base (a.add (i*P.cellsOf e)) (P.cellsOf e)).bind (DataW.trod enc P w base (λ_=>true) held p e)=some y)->Nr w (.slice (some a) b c):=λi ⟨y,h⟩=>by
  obtain⟨D,f,_⟩:=ZX.1 h;obtain⟨B,u⟩:=bR f;have:=u 0 _ (zf o!);rw[Addr.add_zero']at this;exact .inr (.inr ⟨a,b,c,_,_,rfl,this⟩)
 by_cases A:b=0
 .obtain⟨C,f⟩:=z rfl
  exact go (b+0) ⟨_,(f 0 o!).trans (zf o!)⟩
 exact go 0 ⟨_,(d 0 o!).trans (zf o!)⟩
end
section
variable {H:Type}{enc:Zs×Zf->H}{w:Zb}{base:Nat}{held:Bool}
def afg:Tryz.prog.cellsOf 3=1:=k!
def ady:Reads enc Zc w base (λ_=>true) held 3 Ri:=kJ k!
def ad1:Reads enc Zc w base (λ_=>true) held 22 (λw cs (l:List Int)=>∃v,cs=[v]/\SI (Lv w) w v l/\Nr w v):=
 reads_held (t:=22) (e:=3) k! afg d! ady
end
variable {k aa1 rr ww i:Nat}
def Sl.left {d:Type}{t:Tape}{R R':Zb->List Zf->d->Prop}{l:List d}(h:Sl (Lv W) R k W v l)(n:∀cs x,R W cs x->(∀u∈cs,VR (Qk W) u u)/\R' (tp (BD W) t) cs x):Sl (Lv (tp (BD W) t)) R' k (tp (BD W) t) v l:=by
 obtain⟨a,c,s,r,q,p⟩:=h;refine⟨a,c,s,r,q,λi x m=>?_⟩;obtain⟨b,o,cs,B,A,z,y,w⟩:=p i x m;obtain⟨g,f⟩:=n _ _ w;refine⟨b,o,cs,B,?_,z,λj u e=>?_,f⟩
 .show b<(BD W).heap.size
  rw[ej];exact A
 exact SJ (y j u e) (g u (Z3 e))
def adO {t:Tape}{l:List Int}(h:SI (Lv W) W v l):SI (Lv (tp (BD W) t)) (tp (BD W) t) v l:=Sl.left h λc x a=>by
 unfold Ri at a;subst a;exact⟨λu b=>by obtain rfl:=Yh.1 b;exact .int _ _,rfl⟩
section
variable {H:Type}{enc:Zs×Zf->H}{W:Zb}
variable {ps:List MemPlace}
def adk {base:Nat}{d:DataW H}(ok:Zbk Zc W .any base 22 v)(h:DataW.Trod enc Zc W 0 (λ_=>true) true 22 v d ps):∃l,SI (Lv W) W v l/\Nr W v:=by
 obtain⟨a,n,c,rfl⟩:=okWide_slice (t:=22) YE ok;obtain⟨n,f⟩:=h;obtain⟨l,u,e,b⟩:=ad1 n _ _ f;cases e;exact⟨l,b⟩
end
set_option maxRecDepth 100000
set_option maxRecDepth 100000
variable {P:Zo}
variable {t:Zs}
def ad8 {r:Reach}{base:Nat}(ht:P.underlying t=some (.int .u8))(h:Zbk P w r base t v):∃b:UInt8,v=.int .u8 (b.toNat:Int):=by
 obtain⟨n,rfl⟩:=okWide_int ht h;simp only[Zbk,ht,Cell.okWide]at h;have a:0<=n/\n<=255:=by
  have c:IntKind.u8.min<=n/\n<=IntKind.u8.max:=by simpa[Cell.ok,ht,IntKind.has]using h
  have e:IntKind.u8.min=0:=d!
  have d:IntKind.u8.max=255:=d!
  omega
 refine⟨Zcn n.toNat,?_⟩;rw[UInt8.toNat_ofNat']
 congr 1
 omega
def ad2 {r:Reach}{base:Nat}(ht:P.underlying t=some .string)(h:Zbk P w r base t v):∃s:ByteArray,v=.string s:=okWide_string ht h
variable {H:Type}
variable {ps:List MemPlace}
def aaG {enc:Zs×Zf->H}{f:List Zs}{l:List Zf}{n:List (DataW H)}(h:Za9 enc Zc W 0 (λ_=>true) true (t::f) l n ps):
  ∃x l' d e p b,l=x::l'/\DataW.Trod enc Zc W 0 (λ_=>true) true t x d p/\Za9 enc Zc W 0 (λ_=>true) true f l' e b:=by
 obtain⟨x,a,d1,c,i,g,m,_,_,k,j⟩:=trodAll_cons h;exact⟨x,a,d1,c,i,g,m,k,j⟩
def trodAll_nil {enc:Zs×Zf->H}{l:List Zf}{b:List (DataW H)}(h:Za9 enc Zc W 0 (λ_=>true) true [] l b ps):l=[]:=by
 cases l with
 |nil=>rfl
 |cons a l=>cases b<;>exact(show False from h).elim
def adl {ρ:Ren}:∀(l:List Zf),(∀v∈l,VR ρ v v)->BS ρ l.toArray l.toArray:=λl h=>⟨rfl,λi u v a b=>by
 rw[a]at b;cases b;rw[ZG]at a;exact h u (Z3 a)⟩
variable {f:ZaQ}
variable {args:Array Zf}
def adz {fn:Func}{base:Nat}{enc:Zs×Zf->H}{O:List (DataW H)}(hp:fn.params= #[22,9,3,3,5])
 (a:∀(j:Nat) t v,fn.params[j]?=some t->args[j]?=some v->Zbk Zc W .any base t v) (c:Za9 enc Zc W 0 (λ_=>true) true fn.params.toList args.toList O ps) (z:Jr (BD W))
 (g:∀(w:Zb) (r:Zf) (s:ByteArray) (p q:Int) (b:UInt8) (d:List Int),SI (λx=>x<w.heap.size) w r d->Jr w->Calls Lp f #[r,.string s,.int .i64 p,.int .i64 q,.int .u8 (b.toNat:Int)] w (Two w (.bool true))):
  BS (Qk W) args args/\∀t,Calls Lp f args (tp (BD W) t) (Wr (tp (BD W) t)):=by
 rw[hp]at a c;obtain⟨o,l1,d1,N,Z,T,I,A,c⟩:=aaG c;obtain⟨n,l2,d2,M,Y,S,G,h2,c⟩:=aaG c;obtain⟨m,l3,d3,L,X,R,F,h3,c⟩:=aaG c;obtain⟨l,l4,d4,K,V,Q,E,h4,c⟩:=aaG c;obtain⟨k,l5,d5,J,U,P,D,h5,c⟩:=aaG c;have C:=trodAll_nil c;subst C D E F G;have B:args= #[o,n,m,l,k]:=Array.toList_inj.1 I;subst B;obtain⟨d,y,i⟩:=adk (a 0 22 o rfl rfl) A;obtain⟨s,rfl⟩:=ad2 Tryz.underlying9 (a 1 9 n rfl rfl);obtain⟨p,rfl⟩:=okWide_int Tryz.underlying3 (a 2 3 m rfl rfl);obtain⟨q,rfl⟩:=okWide_int Tryz.underlying3 (a 3 3 l rfl rfl);obtain⟨b,rfl⟩:=ad8 Tryz.underlying5 (a 4 5 k rfl rfl);refine⟨adl [_,_,_,_,_] (λv u=>?_),λt=>(g _ _ _ _ _ _ _ (adO (t:=t) y) z).mono λe w' h=>h⟩;simp at u;rcases u with rfl|rfl|rfl|rfl|rfl
 .exact i.aa0
 .exact .string _
 .exact .int _ _
 .exact .int _ _
 exact .int _ _
end Go.Proofs.Fit
namespace Go.Proofs.Fit
open Go Go.RowKit
def aby (a:UInt8):Bool:=decide (97<=a.toNat)&&decide (a.toNat<=122)
def abK (d:UInt8):Bool:=decide (49<=d.toNat)&&decide (d.toNat<=57)
def sgB (b:UInt8):Int:=if b.toNat=45 then -1 else if b.toNat=43 then 1 else 0
def adA (d:UInt8):Int:=if abK d=true then(d.toNat:Int) - 48 else 0
def aaH:List UInt8->Bool
 | [a,b,d]=>aby a&&decide (sgB b≠0)&&abK d
 |_=>false
def aaZ:List UInt8->Int×Int
 | [a,b,d]=>((a.toNat:Int) - 97,sgB b*((d.toNat:Int) - 48))
 |_=>(0,0)
def adB (s:ByteArray)(pos:Nat)(h:pos<s.size):(((s[pos]'h).toNat<128/\Utf8.decode s pos=((s[pos]'h).toNat,1))\/(128<=(s[pos]'h).toNat/\128<=(Utf8.decode s pos).1/\1<=(Utf8.decode s pos).2))/\(Utf8.decode s pos).1<=2147483647:=by
 refine⟨?_,decode_le s pos⟩;by_cases a:(s[pos]'h).toNat<128
 .exact .inl ⟨a,decode_ascii s pos h a⟩
 have:=decode_high s pos h o!;exact .inr ⟨o!,this.1,this.2⟩
structure abh (a b d:UInt8)(pos:Nat)(x n z:Int):Prop where
 seam:x=if 1<=pos/\aby a=true then(a.toNat:Int) - 97 else -1
 sign:a.toNat<128->z=if 2<=pos then sgB b else 0
 num:a.toNat<128->b.toNat<128->n=if 3<=pos then adA d else 0
 z0:pos<=1->z=0
 n0:pos<=2->n=0
 zb: -1<=z/\z<=1
 nb:0<=n/\n<=9
variable {a d b:UInt8}
variable {n x z y last:Int}
def abh.end_ {pos:Nat}(h:abh a b d pos x n z)(hp:3<=pos):((decide (0<=x)&& !(z==0))&&decide (0<n))=aaH [a,b,d]/\(aaH [a,b,d]=true->(x,z*n)=aaZ [a,b,d]):=by
 obtain⟨k,j,i,_,_,s,r⟩:=h;rw[show aaH [a,b,d]=(aby a&&decide (sgB b≠0)&&abK d) from rfl,show aaZ [a,b,d]=((a.toNat:Int) - 97,sgB b*((d.toNat:Int) - 48)) from rfl];by_cases f:aby a=true
 .have g:97<=a.toNat/\a.toNat<=122:=by unfold aby at f;simpa using f
  rw[if_pos ⟨o!,f⟩]at k;have j:=j o!;rw[if_pos o!]at j;by_cases c:sgB b=0
  .have:z=0:=by omega
   subst this;rw[c];simp
  have m:b.toNat<128:=by
   unfold sgB at c;split at c
   .omega
   split at c
   .omega
   exact absurd rfl c
  have i:=i o! m;rw[if_pos o!]at i;subst k j i;unfold adA;by_cases e:abK d=true
  .have l:49<=d.toNat/\d.toNat<=57:=by unfold abK at e;simpa using e
   rw[if_pos e,f,e];refine⟨?_,λ_=>rfl⟩;have q:decide (0<=(a.toNat:Int) - 97)=true:=decide_eq_true o!;have p:(sgB b==0)=false:=by simpa using c
   have o:decide (0<(d.toNat:Int) - 48)=true:=decide_eq_true o!;rw[q,p,o,decide_eq_true c]
   rfl
  have l:abK d=false:=by simpa using e
  rw[if_neg e,l];simp
 have g:aby a=false:=by simpa using f
 rw[if_neg (λh=>f h.2)]at k;subst k;rw[g];simp
def abN:aby a=true↔97<=a.toNat/\a.toNat<=122:=by unfold aby;simp
def ac6:abK d=true↔49<=d.toNat/\d.toNat<=57:=by unfold abK;simp
variable {k aa1 rr ww i:Nat}
def abh.first (h:abh a b d 0 x n z)(l:aa1=a.toNat)(f:(aa1<128/\rr=aa1/\ww=1)\/(128<=aa1/\128<=rr/\1<=ww))(j:y=if 97<=rr/\rr<=122 then(rr:Int) - 97 else -1):abh a b d ww y n z:=by
 have i:=h.z0 o!;have k:=h.n0 o!;subst i k;refine⟨?_,λm=>?_,λm l=>?_,λ_=>rfl,λ_=>rfl,o!,o!⟩
 .rw[j]
  by_cases c:aby a=true
  .have:=abN.1 c
   rcases f with⟨e,g,o⟩|⟨e,_⟩
   .rw[if_pos o!,if_pos ⟨o!,c⟩];omega
   omega
  have:¬(97<=a.toNat/\a.toNat<=122):=λh=>c (abN.2 h);have p:¬(97<=rr/\rr<=122):=by rcases f with⟨e,g,o⟩|⟨e,g,_⟩<;>omega
  exact(if_neg p).trans (if_neg (λh=>c h.2)).symm
 .rw[if_neg o!]
 rw[if_neg o!]
def abh.second {e:Int}(h:abh a b d 1 x n z)(g:aa1=b.toNat)(l:(aa1<128/\rr=aa1/\ww=1)\/(128<=aa1/\128<=rr/\1<=ww))(f:e=if rr=45 then -1 else if rr=43 then 1 else 0):abh a b d (1+ww) x n e:=by
 have k:=h.n0 o!;subst k;have j:e=sgB b:=by
  rw[f];unfold sgB;rcases l with⟨o,i,q⟩|⟨o,i,_⟩
  .rw[i,g]
  rw[if_neg o!,if_neg o!,if_neg o!,if_neg o!]
 refine⟨?_,λm=>?_,λm g=>?_,λp=>o!,λ_=>rfl,?_,o!⟩
 .rw[h.seam]
  by_cases c:aby a=true
  .rw[if_pos ⟨o!,c⟩,if_pos ⟨o!,c⟩]
  rw[if_neg (λh=>c h.2),if_neg (λh=>c h.2)]
 .rw[if_pos o!];exact j
 .rw[if_neg o!]
 rw[f];split
 .omega
 split<;>omega
def abh.adm {n':Int}(h:abh a b d 2 x n z)(m:aa1=d.toNat)(g:(aa1<128/\rr=aa1/\ww=1)\/(128<=aa1/\128<=rr/\1<=ww))(f:n'=if 49<=rr/\rr<=57 then(rr:Int) - 48 else 0):abh a b d (2+ww) x n' z:=by
 have l:n'=adA d:=by
  rw[f];unfold adA;by_cases c:abK d=true
  .have:=ac6.1 c
   rcases g with⟨e,j,o⟩|⟨e,_⟩
   .rw[if_pos o!,if_pos c];omega
   omega
  have:¬(49<=d.toNat/\d.toNat<=57):=λh=>c (ac6.2 h);rw[if_neg c,if_neg];rcases g with⟨e,j,o⟩|⟨e,j,_⟩<;>omega
 refine⟨?_,λi=>?_,λi m=>?_,λk=>o!,λk=>o!,h.zb,?_⟩
 .rw[h.seam]
  by_cases c:aby a=true
  .rw[if_pos ⟨o!,c⟩,if_pos ⟨o!,c⟩]
  rw[if_neg (λh=>c h.2),if_neg (λh=>c h.2)]
 .rw[h.sign i,if_pos o!,if_pos o!]
 .rw[if_pos o!];exact l
 rw[f];split<;>omega
def ac2 (b:List Ay)(a:List Int)(i:Nat):Bool:=decide (nth a i=0)&&AD 0 (Aj b i).low (Aj b i).high
def abb (e:List Ay):List UInt8->List Int->Int->Int×List Int
 | [],c,_=>if(Yr e.length).any (ac2 e c)=true then(1,[]) else(0,c)
 | [_],_,_=>(2,[])
 | [_,_],_,_=>(2,[])
 |a::b::d::r,c,last=>
  if aaH [a,b,d]=true then
   if(e.length:Int)<=(aaZ [a,b,d]).1 then(3,[])
   else if(aaZ [a,b,d]).1<=last then(5,[])
   else if AD (aaZ [a,b,d]).2 (Aj e (aaZ [a,b,d]).1.toNat).low (Aj e (aaZ [a,b,d]).1.toNat).high=true then(1,[])
   else abb e r (c.set (aaZ [a,b,d]).1.toNat (aaZ [a,b,d]).2) (aaZ [a,b,d]).1
  else(2,[])
def abj (c:A_)(l:List UInt8):Int×List Int:=if BN c=0 then abb c.Aa l (List.replicate c.Aa.length 0) (-1) else(BN c,[])
variable {l:List UInt8}
def adn {f:List Ay}{c:List Int}(i:k<l.length)(h:aaH ((l.drop k).take 3)=false):abb f (l.drop k) c last=(2,[]):=by
 match e:l.drop k with
 | []=>have:=congrArg List.length e;rw[List.length_drop]at this;simp at this;omega
 | [_]=>rfl
 | [_,_]=>rfl
 |a::b::d::r=>
  rw[e]at h;have g:aaH [a,b,d]=false:=h;unfold abb;rw[g]
  rfl
def acm (h:aaH ((l.drop k).take 3)=true):∃a b d,l.drop k=a::b::d::l.drop (k+3)/\(l.drop k).take 3=[a,b,d]/\k+3<=l.length/\aby a=true/\sgB b≠0/\abK d=true:=by
 match c:l.drop k with
 | []=>rw[c]at h;cases h
 | [_]=>rw[c]at h;cases h
 | [_,_]=>rw[c]at h;cases h
 |a::b::d::r=>
  have f:r=l.drop (k+3):=by
   rw[<-List.drop_drop,c]
   rfl
  have g:k+3<=l.length:=by
   have:=congrArg List.length c;rw[List.length_drop]at this;simp at this;omega
  rw[c]at h;have e:(aby a&&decide (sgB b≠0)&&abK d)=true:=h;simp only[ZF,decide_eq_true_eq]at e;exact⟨a,b,d,by rw[f],rfl,g,e.1.1,e.1.2,e.2⟩
def acK (k:aby a=true)(c:sgB b≠0)(j:abK d=true):0<=(aaZ [a,b,d]).1/\(aaZ [a,b,d]).1<=25/\(aaZ [a,b,d]).2≠0/\-9<=(aaZ [a,b,d]).2/\(aaZ [a,b,d]).2<=9:=by
 have:=abN.1 k;have:=ac6.1 j;have f:sgB b= -1\/sgB b=1:=by
  unfold sgB at c⊢;split
  .exact .inl rfl
  split
  .exact .inr rfl
  rename_i i g;rw[if_neg i,if_neg g]at c;exact absurd rfl c
 show 0<=(a.toNat:Int) - 97/\(a.toNat:Int) - 97<=25/\sgB b*((d.toNat:Int) - 48)≠0/\-9<=sgB b*((d.toNat:Int) - 48)/\sgB b*((d.toNat:Int) - 48)<=9;rcases f with e|e<;>rw[e]<;>omega
def adC {c:List Ay}{e:List Int}{i:Int}(h:aaH ((l.drop k).take 3)=true)(f:(i,n)=aaZ ((l.drop k).take 3)):
  abb c (l.drop k) e last=if(c.length:Int)<=i then(3,[]) else if i<=last then(5,[]) else if AD n (Aj c i.toNat).low (Aj c i.toNat).high=true then(1,[]) else abb c (l.drop (k+3)) (e.set i.toNat n) i:=by
 obtain⟨a,b,d,j,g,_⟩:=acm h;rw[g]at h f;rw[j]
 conv=>lhs;unfold abb
 rw[if_pos h, <-f]
def ado {b:List Ay}{a:List Int}(c:l.length<=k):abb b (l.drop k) a last=if(Yr b.length).any (ac2 b a)=true then(1,[]) else(0,a):=by
 rw[List.drop_eq_nil_of_le c]
 rfl
def ad9 (s:ByteArray)(i j:Nat):(s.extract i j).data.toList=(s.data.toList.drop i).take (j - i):=by
 rw[ByteArray.data_extract,Array.toList_extract]
variable {W w A B w':Zb}
def bU (h:Qb6 w A)(k:Qb6 A B):Qb6 w B:=h.trans (k.mono h.size)
attribute [local go_sem] Zdk
inductive HT
 |leaf
 |one (i:Nat) (r:HT)
 |free (i:Nat) (r:HT)
 |fork (i:Nat) (x:HT) (j:Nat) (y:HT)
def HT.len:HT->Nat
 | .leaf=>0
 | .one _ r=>r.len+1
 | .free _ r=>r.len+1
 | .fork _ x _ _=>x.len+1
section
variable {P:Zo}{ops:Array Oper}{Q:Exit->Act->Zb->Prop}{md:YO}{S:Zb->Prop}{T:Nat->Zb->Prop}
def abl (P:Zo)(b:Array Oper)(Q:Exit->Act->Zb->Prop)(S:Zb->Prop)(T:Nat->Zb->Prop):HT->Act->Zb->Prop
 | .leaf,a,w=>Q .normal a w
 | .one i r,a,w=>wpOp P b Q i (λa' w'=>T i w'/\abl P b Q S T r a' w') a w
 | .free i r,a,w=>S w/\∃o v,b[i]?=some o/\ZbF P b S o v a/\abl P b Q S T r (a.put o.dst v) w
 | .fork i x j y,a,w=>wpOp P b Q i (λa' w'=>T i w'/\abl P b Q S T x a' w') a w/\wpOp P b Q j (λa' w'=>T j w'/\abl P b Q S T y a' w') a w
def htB (b:YO)(a:Array Oper)(n:Nat)(lates:List Nat):HT->Array Bool->Bool
 | .leaf,listed=>(zs b a listed).isEmpty
 | .one i r,listed=>decide (zs b a listed=[i])&&htB b a n lates r (listed.setIfInBounds i true)
 | .free i r,listed=>(zs b a listed).contains i&&Za3 b a listed i&&pQ b a n lates i&&htB b a n lates r (listed.setIfInBounds i true)
 | .fork i x j y,listed=>decide (zs b a listed=[i,j])&&decide (x.len=y.len)&&htB b a n lates x (listed.setIfInBounds i true)&&htB b a n lates y (listed.setIfInBounds j true)
def abn {n:Nat}{lates:List Nat}(q:YF ops=true)(l:∀c a d v w,Q (.panic c) (Zck a d v) w->Q (.panic c) a w):
  ∀(t:HT) (listed:Array Bool) (a:Act) (w:Zb),Dn md ops listed->htB md ops n lates t listed=true->abl P ops Q S (FG lates S) t a w->Cy P md ops Q (FG lates S) t.len listed a w
 | .leaf,_,_,_,_,b,h=>⟨by simpa[htB]using b,h⟩
 | .one i r,listed,a,w,e,b,h=>by
  simp only[htB,ZF,decide_eq_true_eq]at b;refine⟨λm=>(by rw[b.1]at m;cases m),λj u=>?_⟩;have s:=u;rw[b.1]at u;have:j=i:=by simpa using u
  subst this;exact Zcc (λp w' x=>⟨x.1,abn q l r _ p w' (e.step s) b.2 x.2⟩) h
 | .free i r,listed,a,w,e,b,h=>by
  simp only[htB,ZF]at b;obtain⟨F,o,v,E,D,h⟩:=h;have A:i∈zs md ops listed:=by simpa using b.1.1.1
  exact Me (S:=S) (n:=n) (f:=r.len) E q (λc a w x=>l c a o.dst v w x) (λw x=>.inr x) (iw b.1.2) listed a w e b.1.1.2 A D F (abn q l r _ _ w (e.step A) b.2 h)
 | .fork i x j y,listed,a,w,e,b,h=>by
  simp only[htB,ZF,decide_eq_true_eq]at b;obtain⟨⟨⟨B,I⟩,H⟩,G⟩:=b;refine⟨λm=>(by rw[B]at m;cases m),λk g=>?_⟩;have C:=g;rw[B]at g;rcases List.mem_cons.1 g with rfl|g
  .exact Zcc (λp w' z=>⟨z.1,abn q l x _ p w' (e.step C) H z.2⟩) h.1
  have:k=j:=by simpa using g
  subst this;exact Zcc (λp w' z=>⟨z.1,by have:=abn q l y _ p w' (e.step C) G z.2;rwa[<-I]at this⟩) h.2
def abq {id:Nat}{a:Act}{l:List Oper}(n:Nat)(lates:List Nat)(t:HT)(ls:List Nat)(i:P.follows .mixedOrders=true)(g:∀c a d v w,Q (.panic c) (Zck a d v) w->Q (.panic c) a w)
 (b:(YF l.toArray&&decide (t.len+ls.length=l.toArray.size)&&lsB .any l.toArray n lates (htB .any l.toArray n lates t) ls (Yu l.toArray.size false))=true) (j:S w.drew)
 (h:MQ P l.toArray S (λa'=>abl P l.toArray Q S (FG lates S) t a' w.drew) ls a):(zU id l.toArray true).wp P Q a w:=by
 simp only[ZF,decide_eq_true_eq]at b;refine Zd5 i (JV (T:=FG lates S) _ _ _ _ ?_);have e:Dn .any l.toArray (Yu l.toArray.size false):=λk ok _ f=>by
  rw[show(Yu l.toArray.size false).getD k false=false by unfold Array.getD;split<;>simp]at f;cases f
 have:=Vd b.1.1 g j (λlisted a m p o=>abn b.1.1 g t listed a w.drew m p o) ls _ a e b.2 h;rw[b.1.2]at this;exact this
variable {r:HT}
variable {o:Oper}
def adK {a:Act}(b:ops[i]?=some o)(c:o.guard=none)(h:o.wp P a w (λa' w'=>T i w'/\abl P ops Q S T r a' w') Q):abl P ops Q S T (.one i r) a w:=by
 unfold abl wpOp;simp only[b];rw[if_pos (by simp[Yf,c])];exact .inl h
variable {v:Zf}
def abx {a:Act}(c:ops[i]?=some o)(d:o.guard=none)(b:(Zby a.eval o).run P w=.ok (.value v) w')(e:T i w')
 (h:abl P ops Q S T r (a.put o.dst v) w'):abl P ops Q S T (.one i r) a w:=by
 refine adK c d ?_;unfold ZbA;rw[b,Zdi];exact⟨e,h⟩
variable {f:ZaQ}
variable {args:Array Zf}
def adD {a:Act}(c:ops[i]?=some o)(d:o.guard=none)(b:(Zby a.eval o).run P w=.ok (.enter f args) w)
 (g:Calls P f args w λe w'=>(∃v,e=.returned v/\T i w'/\abl P ops Q S T r (a.put o.dst v) w')\/∃x,e=.panicked x/\Q (.panic x) a w'):abl P ops Q S T (.one i r) a w:=by
 refine adK c d ?_;unfold ZbA;rw[b,Zdj];refine g.mono λe w' h=>?_;rcases h with⟨v,rfl,h⟩|⟨x,rfl,h⟩
 .exact h
 exact h
def abg {a:Act}(e:S w)(c:ops[i]?=some o)(d:o.guard=none)(b:∀w,S w->(Zby a.eval o).run P w=.ok (.value v) w)
 (h:abl P ops Q S T r (a.put o.dst v) w):abl P ops Q S T (.free i r) a w:=
 ⟨e,o,v,c,.inl ⟨by simp[Yf,d],b⟩,h⟩
end
def ad3 (w:Zb)(s:ByteArray)(p:Nat):YH w w (w.iter s p):=(Zh _ _).alloc (Zj _) _
def adL (s:ByteArray)(w:Zb)(e:Ending)(w':Zb):Prop:=Qb6 w w'/\∃x y b,e=.returned (.tuple #[.int .i64 x,.int .i64 y,.bool b])/\b=aaH s.data.toList/\(b=true->(x,y)=aaZ s.data.toList)
variable {s:ByteArray}
def abR {b:Bool}(a:Qb6 w w')(d:b=aaH s.data.toList)(c:b=true->(x,y)=aaZ s.data.toList):adL s w (.returned (.tuple #[.int .i64 x,.int .i64 y,.bool b])) w':=⟨a,x,y,b,rfl,d,c⟩
def afh (s:ByteArray)(w:Zb):Calls Lp 142 #[.string s] w (adL s w):=by
 by_cases J:s.size=3
 .obtain⟨a,b,d,H⟩:∃a b d,s.data.toList=[a,b,d]:=by
   have h:s.data.toList.length=3:=by rw[Zd2];exact J
   match V:s.data.toList,h with
   | [a,b,d],_=>exact⟨a,b,d,rfl⟩
  have v:∀(i:Nat) (h:i<s.size),[a,b,d][i]?=some (s[i]'h):=λi h=>by
   rw[<-H,Array.getElem?_toList];exact Zx (show i<s.data.size from h)
  have q:=Zd H;have O:=Zd v;clear H v;have U:((s.size:Int) !=3)=false:=by rw[J];rfl
  go_enter Lp.func142,aeF;go_wp2;go_loopg [5,6,7] 3 (λY L K zv wr=>∃(c:Nat) (x n z:Int),Y=3 - c/\L=.int .i64 x/\K=.int .i64 n/\zv=.int .i64 z/\abh a b d c x n z/\wr=w.iter s c)
  case atStart=>exact⟨0,-1,0,0,rfl,rfl,rfl,rfl,⟨rfl,λ_=>rfl,λ_ _=>rfl,λ_=>rfl,λ_=>rfl,by omega,by omega⟩,rfl⟩
  obtain⟨c,x,n,z,rfl,rfl,rfl,rfl,o,B⟩:=hrel;by_cases D:c<s.size
  .have g:=Zd o
   have t:=run_next_any (P:=Lp) w s c 0 D;obtain⟨m,G⟩:=adB s c D;have S:=O.out c D;obtain⟨aa1,e⟩:=Qnm ((s[c]'D).toNat);rw[<-e]at m;obtain⟨rr,j⟩:∃r,r=(Utf8.decode s c).1:=⟨_,rfl⟩;obtain⟨ww,u⟩:∃r,r=(Utf8.decode s c).2:=⟨_,rfl⟩;have f:(aa1<128/\rr=aa1/\ww=1)\/(128<=aa1/\128<=rr/\1<=ww):=by
    rcases m with⟨R,X⟩|h
    .rw[X]at j u;exact .inl ⟨R,j,u⟩
    rw[<-j, <-u]at h;exact .inr h
   rw[<-j]at t G;rw[<-u]at t;clear m j u o;have HW:=Zd B;obtain⟨W,p⟩:=Qnm (w.iter s c);rw[<-p]at t B;subst B;clear p;have N:=Zd e;have E:=Zd S;clear e S;obtain rfl|rfl|rfl:c=0\/c=1\/c=2:=o!
   .have e:aa1=a.toNat:=by rw[N.out];have:=E.out;simp at this;rw[this]
    by_cases T:97<=(rr:Int)
    .by_cases I:(rr:Int)<=122
     .go_wp2
      go_roundg (3 - (0+ww))
      case rel=>exact⟨ww,(rr:Int) - 97,n,z,o!,rfl,rfl,rfl,g.out.first e f (by rw[if_pos o!]),rfl⟩
      omega
     go_wp2;go_roundg (3 - (0+ww))
     case rel=>exact⟨ww,x,n,z,o!,rfl,rfl,rfl,g.out.first e f (by rw[if_neg o!,g.out.seam,if_neg o!]),rfl⟩
     omega
    go_wp2;go_roundg (3 - (0+ww))
    case rel=>exact⟨ww,x,n,z,o!,rfl,rfl,rfl,g.out.first e f (by rw[if_neg o!,g.out.seam,if_neg o!]),rfl⟩
    omega
   .have e:aa1=b.toNat:=by rw[N.out];have:=E.out;simp at this;rw[this]
    obtain rfl:z=0:=g.out.z0 o!;by_cases y:(rr:Int)=45
    .have Z:((rr:Int)==45)=true:=by simpa using y
     go_wp2;go_roundg (3 - (1+ww))
     case rel=>exact⟨1+ww,x,n,-1,o!,rfl,rfl,rfl,g.out.second e f (by rw[if_pos o!]),rfl⟩
     omega
    have Z:((rr:Int)==45)=false:=by simpa using y
    by_cases A:(rr:Int)=43
    .have M9:((rr:Int)==43)=true:=by simpa using A
     go_wp2;go_roundg (3 - (1+ww))
     case rel=>exact⟨1+ww,x,n,1,o!,rfl,rfl,rfl,g.out.second e f (by rw[if_neg o!,if_pos o!]),rfl⟩
     omega
    have M9:((rr:Int)==43)=false:=by simpa using A
    go_wp2;go_roundg (3 - (1+ww))
    case rel=>exact⟨1+ww,x,n,0,o!,rfl,rfl,rfl,g.out.second e f (by rw[if_neg o!,if_neg o!]),rfl⟩
    omega
   have e:aa1=d.toNat:=by rw[N.out];have:=E.out;simp at this;rw[this]
   obtain rfl:n=0:=g.out.n0 o!;by_cases T:49<=(rr:Int)
   .by_cases I:(rr:Int)<=57
    .go_wp2
     go_roundg (3 - (2+ww))
     case rel=>exact⟨2+ww,x,(rr:Int) - 48,z,o!,rfl,rfl,rfl,g.out.adm e f (by rw[if_pos o!]),rfl⟩
     omega
    go_wp2;go_roundg (3 - (2+ww))
    case rel=>exact⟨2+ww,x,0,z,o!,rfl,rfl,rfl,g.out.adm e f (by rw[if_neg o!]),rfl⟩
    omega
   go_wp2;go_roundg (3 - (2+ww))
   case rel=>exact⟨2+ww,x,0,z,o!,rfl,rfl,rfl,g.out.adm e f (by rw[if_neg o!]),rfl⟩
   omega
  have t:=run_next_end (P:=Lp) w s c 0 D;have C:=Zd (o.end_ o!);have M:=Zd (ZY o.zb o.nb);obtain⟨W,p⟩:=Qnm (w.iter s c);have l:Qb6 w W:=by rw[p];exact ad3 _ _ _
  rw[<-p]at t B;subst B;clear p o;have hw:IntKind.i64.wrap (z*n)=z*n:=by
   have:=M.out;rw[zE];have R: -9<=z*n/\z*n<=9:=by
    have:z= -1\/z=0\/z=1:=o!
    rcases this with rfl|rfl|rfl<;>omega
   omega
  by_cases Q:0<=x
  .by_cases F:z=0
   .subst F
    have k:=Zd (show aaH [a,b,d]=false by have:=C.out.1;simpa using this.symm);go_wp2
    go_ret3
    exact abR l (by rw[q.out];exact k.out.symm) (by rw[q.out];exact λh=>h!)
   have Fl:(z==0)=false:=by simpa using F
   have DR:(z !=0)=true:=by simpa using F
   have k:=Zd (show decide (0<n)=aaH [a,b,d] by have:=C.out.1;rw[decide_eq_true Q,Fl]at this;simpa using this);go_wp2
   go_ret3
   exact abR l (by rw[q.out];exact k.out) (by rw[q.out];exact λh=>C.out.2 (k.out.symm.trans h))
  have k:=Zd (show aaH [a,b,d]=false by have:=C.out.1;rw[decide_eq_false Q]at this;simpa using this.symm);go_wp2
  go_ret3
  exact abR l (by rw[q.out];exact k.out.symm) (by rw[q.out];exact λh=>h!)
 have U:((s.size:Int) !=3)=true:=j!
 have k:=Zd (show aaH s.data.toList=false from by
  have h:s.data.toList.length≠3:=by rw[Zd2];exact J
  match V:s.data.toList,h with
  | [],_=>rfl
  | [_],_=>rfl
  | [_,_],_=>rfl
  | [_,_,_],h=>exact absurd rfl h
  |_::_::_::_::_,_=>rfl)
 go_enter Lp.func142,aeF;go_wp2
 go_ret3
 exact abR (Zh _ _) k.out.symm (λh=>h!)
def B3.aj4 {b:Nat}(h:Qb6 w A)(c:B3 b A B)(d:w<=b):Qb6 w B:=h.trans ((c.CN (K:=λx=>x=b) rfl).below (λx a=>by have:x=b:=a;omega) h.size)
def tailW (a:List Int)(k m:Nat):List UInt8:=(Zcq k m).flatMap λi=>Od i (nth a i)
def abI (a:List Int)(k m:Nat):tailW a k (m+1)=Od k (nth a k)++tailW a (k+1) m:=by
 unfold tailW;rw[List.range'_succ,List.flatMap_cons]
def ac3 (a:List Int)(n:Nat):tailW a 0 n=F3 a n:=by
 unfold tailW F3;rw[List.range_eq_range']
def adQ (a:k<3):(Zcn (97+k)).toNat=97+k:=by
 obtain rfl|rfl|rfl:k=0\/k=1\/k=2:=o!
 all_goals rfl
def ade (e:k<3)(c: -2<=n/\n<=2)(f:n≠0):∃a b d,Od k n=[a,b,d]/\aaH [a,b,d]=true/\aaZ [a,b,d]=((k:Int),n):=by
 obtain rfl|rfl|rfl:k=0\/k=1\/k=2:=o!
 all_goals
  obtain rfl|rfl|rfl|rfl:n= -2\/n= -1\/n=1\/n=2:=o!
  all_goals exact⟨_,_,_,rfl,rfl,rfl⟩
def adf (s:aaH [a,b,d]=true)(o:aaZ [a,b,d]=((k:Int),n))(r:k<3)(t: -2<=n/\n<=2):Od k n=[a,b,d]:=by
 have j:(aby a&&decide (sgB b≠0)&&abK d)=true:=s;simp only[ZF,decide_eq_true_eq]at j;have v:=abN.1 j.1.1;have u:=ac6.1 j.2;have w:(a.toNat:Int) - 97=k:=congrArg Prod.fst o;have p:sgB b*((d.toNat:Int) - 48)=n:=congrArg Prod.snd o;have l:a=Zcn (97+k):=UInt8.toNat_inj.1 (by rw[adQ r];omega);by_cases i:b.toNat=45
 .have m:sgB b= -1:=if_pos i
  rw[m]at p;have g:b=45:=UInt8.toNat_inj.1 i;have c:d.toNat=49\/d.toNat=50:=o!
  rcases c with e|e
  .have f:d=49:=UInt8.toNat_inj.1 e
   obtain rfl:n= -1:=o!
   rw[l,g,f];rfl
  have f:d=50:=UInt8.toNat_inj.1 e;obtain rfl:n= -2:=o!
  rw[l,g,f];rfl
 have q:b.toNat=43:=by
  have:=j.1.2;unfold sgB at this;rw[if_neg i]at this;by_cases e:b.toNat=43
  .exact e
  rw[if_neg e]at this;exact absurd rfl this
 have m:sgB b=1:=(if_neg i).trans (if_pos q);rw[m]at p;have g:b=43:=UInt8.toNat_inj.1 q;have c:d.toNat=49\/d.toNat=50:=o!
 rcases c with e|e
 .have f:d=49:=UInt8.toNat_inj.1 e
  obtain rfl:n=1:=o!
  rw[l,g,f];rfl
 have f:d=50:=UInt8.toNat_inj.1 e;obtain rfl:n=2:=o!
 rw[l,g,f];rfl
def ac7 {c:List Ay}{r:List UInt8}{e:List Int}(g:aaH [a,b,d]=true)(f:aaZ [a,b,d]=((k:Int),n)):
  abb c (a::b::d::r) e last=if(c.length:Int)<=k then(3,[]) else if(k:Int)<=last then(5,[]) else if AD n (Aj c k).low (Aj c k).high=true then(1,[]) else abb c r (e.set k n) k:=by
 conv=>lhs;unfold abb
 rw[if_pos g,f,Int.toNat_natCast]
def aca (l:List Int)(i j:Nat)(y:Int)(hi:i<l.length):nth (l.set i y) j=if i=j then y else nth l j:=by
 unfold nth;rw[Y6,Y6,List.getElem?_set];split
 .rfl
 rfl
def abU {lo hi:Int}:AD n lo hi=false↔lo<=n/\n<=hi:=by
 unfold AD;simp
variable {st:List Int}
def ad4 {f:List Ay}(D:f.length<=3)(hl:st.length=f.length)(t:∀i,i<f.length->((Aj f i).low<=nth st i/\nth st i<=(Aj f i).high)/\-2<=nth st i/\nth st i<=2):
  ∀(m k:Nat) (c:List Int) (last:Int),k+m=f.length->c.length=f.length->(∀i,i<f.length->nth c i=if i<k then nth st i else 0)->last<k->abb f (tailW st k m) c last=(0,st):=by
 intro m
 induction m with
 |zero=>
  intro k c last A g p z;have B:c=st:=by
   apply List.ext_getElem (g.trans hl.symm);intro i s r;have q:=p i o!;rw[if_pos o!]at q;have y:=Bn s;have x:=Bn r;rw[zf s]at y;rw[zf r]at x;rw[ZW y,ZW x,q]
  subst B;show abb f [] c last=_;unfold abb;rw[if_neg];intro C;obtain⟨i,j,l⟩:=List.any_eq_true.1 C;have j:=List.mem_range.1 j;unfold ac2 at l;simp only[ZF,decide_eq_true_eq]at l;have:=(t i j).1;rw[l.1]at this;rw[abU.2 this]at l;exact absurd l.2 d!
 |succ m w=>
  intro k c last A g p z;rw[abI];have v:k<f.length:=o!
  by_cases u:nth st k=0
  .rw[u,kS,zP]
   refine w (k+1) c last o! g (λi j=>?_) o!;rw[p i j];by_cases e:i=k
   .subst e;rw[if_neg o!,if_pos o!,u]
   by_cases o:i<k
   .rw[if_pos o,if_pos o!]
   rw[if_neg o,if_neg o!]
  obtain⟨a,b,d,s,r,q⟩:=ade (k:=k) (n:=nth st k) o! (t k v).2 u;rw[s];show abb f (a::b::d::tailW st (k+1) m) c last=_;rw[ac7 r q,if_neg o!,if_neg o!,if_neg (by rw[abU.2 (t k v).1];decide)];refine w (k+1) _ k o! (by rw[ZcC];exact g) (λi j=>?_) o!;rw[aca c k i _ o!];by_cases e:k=i
  .subst e;rw[if_pos rfl,if_pos o!]
  rw[if_neg e,p i j];by_cases o:i<k
  .rw[if_pos o,if_pos o!]
  rw[if_neg o,if_neg o!]
def ace (a:List Int)(m:Nat):∀(j k:Nat),(∀i,k<=i->i<k+j->nth a i=0)->tailW a k (j+m)=tailW a (k+j) m:=by
 intro j
 induction j with
 |zero=>intro k _;rw[zN];rfl
 |succ j b=>
  intro k h;rw[show j+1+m=(j+m)+1 by omega,abI,h k o! o!,kS,zP,b (k+1) (λi d c=>h i o! o!),show k+1+j=k+(j+1) by omega]
def acs {c:List Ay}{b a:List Int}(h:abb c [] b last=(0,a))(d:b.length=c.length)(j:∀i,k<=i->i<c.length->nth b i=0):
 a.length=c.length/\(∀i,i<k->nth a i=nth b i)/\(∀i,k<=i->i<c.length->nth a i≠0->(Aj c i).low<=nth a i/\nth a i<=(Aj c i).high)/\ []=tailW a k (c.length - k)/\∀i,i<c.length->ac2 c a i=false:=by
 unfold abb at h;by_cases f:(Yr c.length).any (ac2 c b)=true
 .rw[if_pos f]at h;cases h
 rw[if_neg f]at h;obtain rfl:b=a:=congrArg Prod.snd h;refine⟨d,λ_ _=>rfl,λi g l n=>absurd (j i g l) n,?_,λi m=>?_⟩
 .have:=ace b 0 (c.length - k) k (λi g l=>j i g o!)
  rw[Nat.add_zero]at this;rw[this]
  rfl
 cases e:ac2 c b i with
 |false=>rfl
 |true=>exact absurd (List.any_eq_true.2 ⟨i,List.mem_range.2 m,e⟩) f
def adp {j:List Ay}(U:j.length<=3)(P:∀i,i<j.length->-2<=(Aj j i).low/\(Aj j i).high<=2):∀(f:Nat) (l:List UInt8) (m g:List Int) (k:Nat) (last:Int),l.length<=f->abb j l m last=(0,g)->m.length=j.length->last+1=(k:Int)->k<=j.length->(∀i,k<=i->i<j.length->nth m i=0)->
  g.length=j.length/\(∀i,i<k->nth g i=nth m i)/\(∀i,k<=i->i<j.length->nth g i≠0->(Aj j i).low<=nth g i/\nth g i<=(Aj j i).high)/\l=tailW g k (j.length - k)/\∀i,i<j.length->ac2 j g i=false:=by
 intro f
 induction f with
 |zero=>
  intro l m g k last u h o H Q q;obtain rfl:l=[]:=List.length_eq_zero_iff.1 o!;exact acs h o q
 |succ f O=>
  intro l m g k last u h o H Q q
  match l,u,h with
  | [],_,h=>exact acs h o q
  | [_],_,h=>cases h
  | [_,_],_,h=>cases h
  |a::b::d::r,u,h=>
   by_cases t:aaH [a,b,d]=true
   .have F:(aby a&&decide (sgB b≠0)&&abK d)=true:=t
    simp only[ZF,decide_eq_true_eq]at F;have V:=abN.1 F.1.1;obtain⟨c,W⟩:∃c:Nat,c=a.toNat - 97:=⟨_,rfl⟩;obtain⟨n,T⟩:∃n:Int,n=(aaZ [a,b,d]).2:=⟨_,rfl⟩;have B:aaZ [a,b,d]=((c:Int),n):=by
     refine Prod.ext ?_ T.symm;show(a.toNat:Int) - 97=c;omega
    rw[ac7 t B]at h;by_cases E:(j.length:Int)<=c
    .rw[if_pos E]at h;cases h
    rw[if_neg E]at h;by_cases D:(c:Int)<=last
    .rw[if_pos D]at h;cases h
    rw[if_neg D]at h;by_cases z:AD n (Aj j c).low (Aj j c).high=true
    .rw[if_pos z]at h;cases h
    rw[if_neg z]at h;have y:AD n (Aj j c).low (Aj j c).high=false:=by simpa using z
    have x:=abU.1 y;have S:=P c o!;obtain⟨M,L,K,J,I⟩:=O r (m.set c n) g (c+1) c (by rw[zb,zb,zb]at u;omega) h (by rw[ZcC];exact o) o! o! (λi w s=>by
     rw[aca m c i n o!,if_neg o!];exact q i o! s)
    have p:∀i,i<c+1->nth g i=if c=i then n else nth m i:=λi C=>by rw[L i C,aca m c i n o!]
    refine⟨M,λi C=>by rw[p i o!,if_neg o!],λi w s v=>?_,?_,I⟩
    .by_cases e:i<c+1
     .rw[p i e]at v⊢
      by_cases G:c=i
      .subst G;rw[if_pos rfl];exact x
      rw[if_neg G]at v;exact absurd (q i w s) v
     exact K i o! s v
    have A:=adf t B o! o!;have R:tailW g k (j.length - k)=tailW g c (j.length - c):=by
     have:=ace g (j.length - c) (c - k) k (λi w s=>by
      rw[p i o!,if_neg o!];exact q i w o!)
     rw[show c - k+(j.length - c)=j.length - k by omega,show k+(c - k)=c by omega]at this;exact this
    rw[R,show j.length - c=(j.length - (c+1))+1 by omega,abI,p c o!,if_pos rfl,A, <-J]
    rfl
   have N:aaH [a,b,d]=false:=by simpa using t
   unfold abb at h;rw[N]at h;cases h
variable {c:A_}
def adg (e:BN c=0)(a:Tc c st):abj c (F3 st st.length)=(0,st):=by
 have d:=EG e;unfold abj;rw[if_pos e, <-ac3,a.1];refine ad4 d.few.2 a.1 (λi b=>?_) c.Aa.length 0 _ (-1) o! List.length_replicate (λi b=>?_) o!
 .have:=a.2 i (by rw[a.1];exact b)
  have:=d.step i b;omega
 rw[if_neg o!];simp[nth,Y6,List.getElem?_replicate,b]
def ad5 {a:List Int}(h:abj c l=(0,a)):Ca c a=0/\F3 a a.length=l:=by
 unfold abj at h;by_cases d:BN c=0
 .rw[if_pos d]at h
  have g:=EG d;obtain⟨f,_,n,j,m⟩:=adp g.few.2 (λi b=>⟨(g.step i b).1,(g.step i b).2.1⟩) l.length l _ a 0 (-1) (Zj _) h List.length_replicate rfl (Zp _) (λi _ b=>by
   simp[nth,Y6,List.getElem?_replicate,b])
  rw[Nat.sub_zero,ac3]at j;refine⟨?_,by rw[f];exact j.symm⟩;have k:Tc c a:=⟨f,λi b=>by
   by_cases e:nth a i=0
   .have:=m i (by rw[<-f];exact b)
    unfold ac2 at this;rw[decide_eq_true e,Bool.true_and]at this;rw[e];exact abU.1 this
   exact n i (Zp _) (by rw[<-f];exact b) e⟩
  unfold Ca;rw[BR d];exact iH k
 rw[if_neg d]at h;exact absurd (congrArg Prod.fst h) d
def aeH (m:Int)(w:Zb)(e:Ending)(w':Zb):Prop:=∃r,e=.returned (.int .i64 r)/\0<=r/\r<m/\w'=w
def aeI (n m:Int)(w:Zb)(a:0<m)(i:m<=1000):Calls Lp 141 #[.int .i64 n,.int .i64 m] w (aeH m w):=by
 have g: -m<n.tmod m/\n.tmod m<m:=⟨by have:=Int.lt_tmod_of_pos n a;omega,Int.tmod_lt_of_pos n a⟩;have f:0<=(n.tmod m+m).tmod m/\(n.tmod m+m).tmod m<m:=⟨Int.tmod_nonneg _ o!,Int.tmod_lt_of_pos _ a⟩;have e:IntKind.i64.wrap (n.tmod m+m)=n.tmod m+m:=by rw[zE];omega
 have d:IntKind.i64.wrap (n.tmod m)=n.tmod m:=by rw[zE];omega
 have c:IntKind.i64.wrap ((n.tmod m+m).tmod m)=(n.tmod m+m).tmod m:=by rw[zE];omega
 have b:m≠0:=o!
 go_enter Lp.func141,aff;go_wp2;go_ret;exact⟨_,rfl,Int.emod_nonneg _ b,Int.emod_lt_of_pos _ a,rfl⟩
def adR (n:Nat)(w:Zb)(e:Ending)(w':Zb):Prop:=Qb6 w w'/\∃t:ByteArray,e=.returned (.string t)/\t.size<=n+1
def acf {g:Nat}(h:W.heap[g]?=some (.cells #[.int .u8 (b.toNat:Int)] 5 (0,0))):(convert 166 9 (.slice g 1 1)).run Lp W=.ok (.string ⟨#[b]⟩) W:=
 run_convert_bytes_back W 166 9 5 g 1 [b] (Cz Zb2) (Cz Tryz.underlying5) (Cz Tryz.underlying9) (Lib.bytes_of_row h rfl)
def c80 (s:ByteArray)(p q:Int)(b:UInt8)(w:Zb)(hs:s.size<=900):Calls Lp 80 #[.string s,.int .i64 p,.int .i64 q,.int .u8 (b.toNat:Int)] w (adR s.size w):=by
 obtain⟨bv,R⟩:∃v:Int,v=(b.toNat:Int):=⟨_,rfl⟩;by_cases h0:s.size=0
 .have O:((s.size:Int)==0)=true:=beq_iff_eq.2 o!
  have I:=Bp w (.cells #[.int .u8 (b.toNat:Int)] 5);have M:=acf I;have m:YH w w (w.alloc (.cells #[.int .u8 (b.toNat:Int)] 5)):=bA (Zh _ _);clear I;go_enter Lp.func80,n80;go_wp2;go_ret;exact⟨m,_,rfl,by show 1<=_;omega⟩
 have O:((s.size:Int)==0)=false:=beq_eq_false_iff_ne.2 o!;have H1:=Zd (aeI p s.size w o! o!);have E:=Zd (aeI q 3 w o! o!);go_enter Lp.func80,n80;go_wp2;refine H1.out.mono ?_;rintro e w1 ⟨k,rfl,kq,Q,y⟩;have y:=y.symm;subst y;obtain⟨a,rfl⟩:∃a:Nat,k=(a:Int):=⟨k.toNat,o!⟩;go_wp2;refine E.out.mono ?_;rintro e w2 ⟨r,rfl,tE,Xg,u⟩;have u:=u.symm;subst u;have hw:IntKind.i64.wrap ((a:Int)+1)=(a:Int)+1:=by rw[zE];omega
 obtain⟨A,C⟩:=Qnm (s.extract 0 a);have Y:A.size=a:=by rw[C,ByteArray.size_extract];omega
 have ha:∀W,(ZbI 9 (.string s) none (some (.int .i64 (a:Int))) none).run Lp W=.ok (.string A) W:=λW=>by
  have:=run_slice_string_h (P:=Lp) W 9 s (Cz Tryz.underlying9) .i64 (a:Int) o! o!;rw[C];simpa using this
 obtain⟨B,x⟩:=Qnm (s.extract (a+1) s.size);have X:B.size=s.size - (a+1):=by rw[x,ByteArray.size_extract];omega
 have hb:∀W,(ZbI 9 (.string s) (some (.int .i64 ((a:Int)+1))) none none).run Lp W=.ok (.string B) W:=λW=>by
  have:=run_slice_string_l (P:=Lp) W 9 s (Cz Tryz.underlying9) .i64 ((a:Int)+1) o! o!;rw[x,this,show((a:Int)+1).toNat=a+1 by omega]
 obtain⟨D,z⟩:=Qnm (s.extract a s.size);have U:D.size=s.size - a:=by rw[z,ByteArray.size_extract];omega
 have hd:∀W,(ZbI 9 (.string s) (some (.int .i64 (a:Int))) none none).run Lp W=.ok (.string D) W:=λW=>by
  have:=run_slice_string_l (P:=Lp) W 9 s (Cz Tryz.underlying9) .i64 (a:Int) o! o!;rw[z,this,show((a:Int)).toNat=a by omega]
 clear C x z;by_cases L:r=0
 .subst L
  go_wp2;refine abq (S:=λW=>∃p,W=calm w p) 13 [] (.free 2 (.free 9 (.free 10 (.one 4 (.one 5 (.free 6 (.free 11 (.one 12 .leaf)))))))) [0,1,3,7,8] k! (λ_ _ d _ _ h=>by cases d<;>exact h) k! (AL (Zh _ _).drew) ?_;refine A4 _ _ k! ?_;simp only[Z6,zd,ZG,ZD,ZC]
  repeat (first|go_big_quiet_step (fail)|quiet_step (fail))
  refine Z4 ?_;change abl _ _ _ _ _ _ _ _;have o:YH w w w.drew:=(Zh _ _).drew;obtain⟨V,l⟩:=Qnm (w.drew.alloc (.cells #[.int .u8 (b.toNat:Int)] 5));have F:YH w.drew w.drew V:=by rw[l];exact bA (Zh _ _)
  have m:=bU o F;have M:(convert 166 9 (.slice w 1 1)).run Lp V=.ok (.string ⟨#[b]⟩) V:=acf (W:=V) (g:=w.drew) (b:=b) (by rw[l];exact Bp _ _);have i:∃p,V=calm w p:=AL m;have f:∃p,w.drew=calm w p:=AL o;refine abg (v:=.string A) f rfl rfl (λw _=>g!) ?_;refine abg (v:=.int .i64 ((a:Int)+1)) f rfl rfl (λw _=>g!) ?_;refine abg (v:=.string B) f rfl rfl (λw _=>g!) ?_;refine abx (v:=.slice w 1 1) (w':=V) rfl rfl (by rw[l];go_simp) (.inr i) ?_;clear l;refine abx (v:=.string ⟨#[b]⟩) (w':=V) rfl rfl g! (.inr i) ?_;have G:∀W,(ZcJ .add A ⟨#[b]⟩).run Lp W=.ok (.string (A++⟨#[b]⟩)) W:=λW=>run_string_add W _ _ o! (by show(1:Int)<=_;omega);obtain⟨T1,n⟩:∃T,T=A++(⟨#[b]⟩:ByteArray):=⟨_,rfl⟩;rw[<-n]at G;have DR:T1.size=A.size+1:=by rw[n,ByteArray.size_append];rfl
  have t:∀W,(ZcJ .add T1 B).run Lp W=.ok (.string (T1++B)) W:=λW=>run_string_add W _ _ o! o!;obtain⟨c,j⟩:∃T,T=T1++B:=⟨_,rfl⟩;rw[<-j]at t;have N:c.size=T1.size+B.size:=by rw[j,ByteArray.size_append]
  clear n j;refine abg (v:=.string T1) i rfl rfl (λw _=>g!) ?_;refine abg (v:=.string c) i rfl rfl (λw _=>g!) ?_;refine abx (v:=.string c) (w':=V) rfl rfl g! (.inr i) ?_;unfold abl
  go_simp
  go_wp2;go_ret;exact⟨m,_,rfl,o!⟩
 have ac:(r==0)=false:=by simpa using L
 by_cases K:r=1
 .subst K
  have t:∀W,(ZcJ .add A B).run Lp W=.ok (.string (A++B)) W:=λW=>run_string_add W _ _ o! o!;obtain⟨c,j⟩:∃T,T=A++B:=⟨_,rfl⟩;rw[<-j]at t;have N:c.size=A.size+B.size:=by rw[j,ByteArray.size_append]
  clear j;go_wp2;refine Av k! k! ?_
  repeat (first|go_big_quiet_step (fail)|quiet_step (fail))
  refine Z4 ?_;rintro _ ⟨p,rfl⟩;have H:=AE w p;obtain⟨V2,J⟩:=Qnm (calm w p);rw[<-J]at H⊢;clear J;go_wp2;go_ret;exact⟨H,_,rfl,o!⟩
 have Z:(r==1)=false:=by simpa using K
 go_wp2;refine abq (S:=λW=>∃p,W=calm w p) 12 [] (.free 2 (.free 9 (.one 4 (.one 5 (.free 6 (.free 10 (.one 11 .leaf))))))) [0,1,3,7,8] k! (λ_ _ d _ _ h=>by cases d<;>exact h) k! (AL (Zh _ _).drew) ?_;refine A4 _ _ k! ?_;simp only[Z6,zd,ZG,ZD,ZC]
 repeat (first|go_big_quiet_step (fail)|quiet_step (fail))
 refine Z4 ?_;change abl _ _ _ _ _ _ _ _;have o:YH w w w.drew:=(Zh _ _).drew;obtain⟨V,l⟩:=Qnm (w.drew.alloc (.cells #[.int .u8 (b.toNat:Int)] 5));have F:YH w.drew w.drew V:=by rw[l];exact bA (Zh _ _)
 have m:=bU o F;have M:(convert 166 9 (.slice w 1 1)).run Lp V=.ok (.string ⟨#[b]⟩) V:=acf (W:=V) (g:=w.drew) (b:=b) (by rw[l];exact Bp _ _);have i:∃p,V=calm w p:=AL m;have f:∃p,w.drew=calm w p:=AL o;refine abg (v:=.string A) f rfl rfl (λw _=>g!) ?_;refine abg (v:=.string D) f rfl rfl (λw _=>g!) ?_;refine abx (v:=.slice w 1 1) (w':=V) rfl rfl (by rw[l];go_simp) (.inr i) ?_;clear l;refine abx (v:=.string ⟨#[b]⟩) (w':=V) rfl rfl g! (.inr i) ?_;have G:∀W,(ZcJ .add A ⟨#[b]⟩).run Lp W=.ok (.string (A++⟨#[b]⟩)) W:=λW=>run_string_add W _ _ o! (by show(1:Int)<=_;omega);obtain⟨T1,n⟩:∃T,T=A++(⟨#[b]⟩:ByteArray):=⟨_,rfl⟩;rw[<-n]at G;have DR:T1.size=A.size+1:=by rw[n,ByteArray.size_append];rfl
 have t:∀W,(ZcJ .add T1 D).run Lp W=.ok (.string (T1++D)) W:=λW=>run_string_add W _ _ o! o!;obtain⟨c,j⟩:∃T,T=T1++D:=⟨_,rfl⟩;rw[<-j]at t;have N:c.size=T1.size+D.size:=by rw[j,ByteArray.size_append]
 clear n j;refine abg (v:=.string T1) i rfl rfl (λw _=>g!) ?_;refine abg (v:=.string c) i rfl rfl (λw _=>g!) ?_;refine abx (v:=.string c) (w':=V) rfl rfl g! (.inr i) ?_;unfold abl
 go_simp
 go_wp2;go_ret;exact⟨m,_,rfl,o!⟩
def adE {b:Nat}(h:Qb6 w A)(a:B3 b A B)(d:w<=b):Qb6 w B:=
 ⟨a.os.trans h.os,a.tape.trans h.tape,a.output.trans h.output,Zr h.size a.size,λk c=>(a.block k (Zl c h.size) o!).trans (h.block k c)⟩
def aci (l:List Int):Array Zf:=(l.map (ZL .i64)).toArray
def acL (l:List Int)(i:Nat)(h:i<l.length):(aci l)[i]?=some (.int .i64 (nth l i)):=by
 unfold aci;rw[ZG,YL,Bn h]
 rfl
def adq (l:List Int)(i:Nat)(n:Int):(aci l).setIfInBounds i (.int .i64 n)=aci (l.set i n):=by
 unfold aci;rw[List.setIfInBounds_toArray,List.map_set]
def adh (n:Nat):aci (List.replicate n 0)=Yu n (.int .i64 0):=by
 unfold aci;rw[List.map_replicate]
 rfl
def adr:∀s,s<8->∀i,i<3->∀j,j<3->hasB (Iv s i) j=(hasB s j||decide (i=j)):=d!
def ads (l:List Int)(i j:Nat)(y:Int)(hi:i<l.length):nth (l.set i y) j=if i=j then y else nth l j:=by
 unfold nth;rw[Y6,Y6,List.getElem?_set];split
 .rfl
 rfl
variable {S:Nat->Prop}
def adF {q:Nat}{a:List Int}(h:W.heap[q]?=some (.cells (aci a) 3 (0,0)))(e:S q)(hl:a.length<=maxLen):SI S W (.slice q a.length a.length) a:=by
 refine⟨_,_,rfl,Zj _,hl,λi x b=>⟨q,0,[.int .i64 x],rfl,e,rfl,λj u c=>?_,rfl⟩⟩;have d:=(Zm.1 b).1;cases j with
 |zero=>
  cases c;have:=ch h (acL a i d);rw[show nth a i=x by have:=Bn d;rw[b]at this;exact(ZW this).symm]at this;simpa using this
 |succ j=>cases c
def adt (w:Zb)(x:Int)(L:List Int)(e:Ending)(w':Zb):Prop:=Qb6 w w'/\∃a k,e=.returned (.tuple #[.slice a L.length k,.int .i64 x])/\SI (Cb w w') w' (.slice a L.length k) L
def adu {L M:List Int}{a:Option Addr}(e:x=y)(d:L=M)(c:Qb6 w w')(b:SI (Cb w w') w' (.slice a M.length k) M):adt w x L (.returned (.tuple #[.slice a M.length k,.int .i64 y])) w':=by
 rw[e,d];exact⟨c,a,k,rfl,b⟩
def abo {R:Int×List Int}(h:R=(y,[]))(b:Qb6 w w'):adt w R.1 R.2 (.returned (.tuple #[(),.int .i64 y])) w':=by
 rw[h];exact⟨b,none,0,rfl,⟨none,0,rfl,Zj _,Zp _,λi x a=>by cases a⟩⟩
def c81 {v1 v2 v3 v4 v5:Zf}(s:ByteArray)(h:RC S w v1 v2 v3 v4 v5 c)(hS:Ql6 S w)(iW:s.size<=1000):
  Calls Lp 81 #[.agg #[v1,v2,v3,v4,v5],.string s] w (adt w (abj c s.data.toList).1 (abj c s.data.toList).2):=by
 obtain⟨a1,c1,a2,c2,a3,c3,a4,c4,a5,c5,rfl,rfl,rfl,rfl,rfl,l1,m1,l2,m2,l3,m3,l4,m4,l5,m5⟩:=h.vs;have IX:=DJ;obtain⟨l,hl⟩:=Qnm s.data.toList;have Xc:l.length=s.size:=by rw[hl,Zd2];rfl
 rw[<-hl];obtain⟨X,hX⟩:=Qnm (w.alloc (.cells (Qe6 c a1 c1 a2 c2 a3 c3 a4 c4 a5 c5) 26));have Ov:Qb6 w X:=by rw[hX];exact bA (Zh _ _)
 by_cases Jz:BN c=0
 .have ez:=Zd (Wt (h.later Ov) (A3 hS Ov) Jz)
  have hv:=EG Jz;have Jm:=hv.few;obtain⟨R,hR⟩:=Qnm (abj c l);have HR:=Zd (show abb c.Aa (l.drop 0) (List.replicate c.Aa.length 0) (-1)=R from by rw[hR];unfold abj;rw[if_pos Jz];rfl);rw[<-hR];have HL:=Zd hl;clear hR Jz hl;go_enter Lp.func81,n81;go_wp2;rw[<-hX];refine ez.out.mono ?_;rintro e W1 ⟨rfl,Bg⟩;clear hX;have O:=bU Ov Bg;have fH:=λW=>uL c.Aa.length o! W;obtain⟨W2,MX⟩:=Qnm (W1.alloc (.cells (AW (.slice a1 c.base.length c1) (.slice a2 c.Af.length c2) (.slice a3 c.hooks.length c3) (.slice a4 c.Aa.length c4) (.slice a5 c.now.length c5) (Ax c.Aa)) 112));have Bb:Qb6 W1 W2:=by rw[MX];exact bA (Zh _ _)
  have T3:W2.heap[W1.heap.size]?=some (.cells (AW (.slice a1 c.base.length c1) (.slice a2 c.Af.length c2) (.slice a3 c.hooks.length c3) (.slice a4 c.Aa.length c4) (.slice a5 c.now.length c5) (Ax c.Aa)) 112 (0,0)):=by rw[MX];exact Bp _ _
  have EB:W2=W1.heap.size+1:=by rw[MX,ZB]
  obtain⟨g,hg⟩:=Qnm W1.heap.size;obtain⟨W3,Hv⟩:=Qnm (W2.alloc (.cells (Yu c.Aa.length (ZL .i64 0)) 3));have Bv:Qb6 W2 W3:=by rw[Hv];exact bA (Zh _ _)
  obtain⟨q,hq⟩:=Qnm W2.heap.size;have fI:W3.heap[q]?=some (.cells (aci (List.replicate c.Aa.length 0)) 3 (0,0)):=by
   rw[Hv,hq,adh];exact Bp _ _
  have Rb:W3=W2.heap.size+1:=by rw[Hv,ZB]
  have mB:=(Bv.block g o!).trans (show W2.heap[g]?=some (.cells (AW (.slice a1 c.base.length c1) (.slice a2 c.Af.length c2) (.slice a3 c.hooks.length c3) (.slice a4 c.Aa.length c4) (.slice a5 c.now.length c5) (Ax c.Aa)) 112 (0,0)) by rw[hg];exact T3);go_wp2;change Code.wp _ _ _ _ ((W1.alloc (.cells (AW (.slice a1 c.base.length c1) (.slice a2 c.Af.length c2) (.slice a3 c.hooks.length c3) (.slice a4 c.Aa.length c4) (.slice a5 c.now.length c5) (Ax c.Aa)) 112)).alloc (.cells (Yu c.Aa.length (ZL .i64 0)) 3));have P_:q=W1+1:=o!
  rw[<-MX, <-Hv, <-P_, <-hg];have K:q<W3.heap.size/\w<=q/\g≠q/\g<W3:=by have:=O.size;omega
  have rp:Qb6 w W3:=bU O (bU Bb Bv);clear MX Hv hq P_ hg fH T3 ez;obtain⟨n,hn⟩:=Qnm c.Aa.length;have jp:=Zd hn;go_loopg [9,10,11] l.length (λgg sv lv kv wr=>∃(k t:Nat) (la:Int) (f:List Int),gg=l.length - k/\sv=.int .u8 t/\lv=.int .i64 la/\kv=.int .i64 k/\k<=l.length/\abb c.Aa (l.drop k) f la=R/\f.length=c.Aa.length/\t<8/\(∀i,i<3->hasB t i=decide (nth f i≠0))/\-1<=la/\la<=25/\wr.heap[q]?=some (.cells (aci f) 3 (0,0))/\B3 q W3 wr)
  case atStart=>exact⟨0,0,-1,List.replicate c.Aa.length 0,rfl,rfl,rfl,rfl,Zp _,HR.out,List.length_replicate,d!,λi F=>by
   have:nth (List.replicate c.Aa.length 0) i=0:=by simp[nth,Y6,List.getElem?_replicate];split<;>rfl
   rw[this];obtain rfl|rfl|rfl:i=0\/i=1\/i=2:=o!
   all_goals rfl,o!,o!,fI,B3.refl _ _⟩
  obtain⟨k,t,la,f,rfl,rfl,rfl,rfl,hk,hr,du,J,fu,jn,i9,Ci,hU⟩:=hrel;obtain⟨V,hV⟩:=Qnm wr;subst hV;have U:=Zd (ZY hr (ZY du fu));clear hr du fu;have fJ:=(hU.block g K.2.2.2 K.2.2.1).trans mB;have bc:=adE rp hU K.2.1;have k0:=ch (i:=0) fJ (v:=.slice a1 c.base.length c1) rfl;have k1:=ch (i:=1) fJ (v:=.slice a2 c.Af.length c2) rfl;have k2:=ch (i:=2) fJ (v:=.slice a3 c.hooks.length c3) rfl;have k3:=ch (i:=3) fJ (v:=.slice a4 c.Aa.length c4) rfl;have k4:=ch (i:=4) fJ (v:=.slice a5 c.now.length c5) rfl;by_cases Az:k<s.size
  .have TB:(k:Int)<(s.size:Int):=by omega
   have hw:IntKind.i64.wrap ((k:Int)+3)=(k:Int)+3:=by rw[zE];omega
   obtain⟨m,hm⟩:=Qnm (min (k+3) s.size);have gj:min ((k:Int)+3) (s.size:Int)=(m:Int):=o!
   have i5:k<=m/\m<=s.size:=o!
   have NK:∀W,(ZbI 9 (.string s) (some (.int .i64 (k:Int))) (some (.int .i64 ((min (k+3) s.size:Nat):Int))) none).run Lp W=.ok (.string (s.extract k m)) W:=λW=>by
    have:=run_slice_string (P:=Lp) W 9 s .i64 .i64 (k:Int) ((min (k+3) s.size:Nat):Int) (Cz Tryz.underlying9) o! o! o!;rw[hm];simpa using this
   obtain⟨pt,Xb⟩:∃p,p=s.extract k m:=⟨_,rfl⟩;have ip:=Zd (show pt.data.toList=(l.drop k).take 3 from by
    rw[Xb,ad9, <-HL.out,List.take_eq_take_iff,List.length_drop];omega)
   rw[<-Xb]at NK;clear Xb;have fm:=Zd (λW=>afh pt W);go_wp2;refine(fm.out _).mono ?_;rintro e V1 ⟨Bg,x,y,b,rfl,FD,EC⟩;rw[ip.out]at FD EC;clear fm NK gj;have G:=bU bc Bg;cases b with
   |false=>
    have B:=Zd (show R=(2,[]) from U.out.1.symm.trans (adn o! FD.symm));clear FD EC;go_wp2;go_ret2;exact abo B.out G
   |true=>
    have I:=EC rfl;obtain⟨pa,pb,pd,h1,h2,h3,h4,h5,h6⟩:=acm FD.symm;have am:=acK h4 h5 h6;have bi:=Zd (U.out.1.symm.trans (adC FD.symm I));have fx:0<=x/\x<=25/\y≠0/\-9<=y/\y<=9:=by
     rw[h2]at I;rw[<-I]at am;exact am
    clear I h1 h2 am EC FD;obtain⟨o,rfl⟩:∃o:Nat,x=(o:Int):=⟨x.toNat,o!⟩;have a:∀ {p:Addr} {v:Zf},V.cell? p=some v->V1.cell? p=some v:=λh=>(Bg.cell (ZH _ _ h)).trans h;replace k0:=a k0;replace k1:=a k1;replace k2:=a k2;replace k3:=a k3;replace k4:=a k4;by_cases i8:c.Aa.length<=o
    .have N:(c.Aa.length:Int)<=(o:Int):=by omega
     have B:=Zd (show R=(3,[]) from bi.out.trans (if_pos N));go_wp2;go_ret2;exact abo B.out G
    have N:¬(c.Aa.length:Int)<=(o:Int):=o!
    by_cases ed:(o:Int)<=la
    .have B:=Zd (show R=(5,[]) from bi.out.trans ((if_neg N).trans (if_pos ed)))
     go_wp2;go_ret2;exact abo B.out G
    have ci:o<c.Aa.length:=o!
    obtain⟨M,o4,s2,s3,ea,UQ,Y,T,_⟩:=h.Aa.at_ (i:=o) ci;subst ea;have Y:=(G.cell (p:=⟨M,o4+o*5,none⟩) (hS M UQ)).trans Y;have T:=(G.cell (p:=⟨M,o4+o*5+1,none⟩) (hS M UQ)).trans T;obtain⟨Z,mK⟩:=Qnm ((Aj c.Aa o).low);obtain⟨F,D⟩:=Qnm ((Aj c.Aa o).high);rw[<-mK]at Y;rw[<-D]at T;have bV:=Zd (show R=if AD y Z F=true then(1,[]) else abb c.Aa (l.drop (k+3)) (f.set o y) o from by
     rw[mK,D];exact bi.out.trans ((if_neg N).trans (if_neg ed)))
    clear mK D;obtain⟨C,r⟩:=Qnm (AD y Z F);have E:=Zd (show∀W,Calls Lp 134 #[.int .i64 y,.int .i64 Z,.int .i64 F] W λe w'=>e=.returned (.bool C)/\Qb6 W w' from λW=>(bp y Z F W).mono λe w' h=>⟨by rw[r];exact h.1,by rw[h.2];exact Zh _ _⟩);rw[<-r]at bV;clear r;have iX:(0:Int)<=(o:Int):=o!
    have xy:(o:Int)<(c.Aa.length:Int):=o!
    have z3:=λu=>Al u k3;have z5:=λu=>Al u Y;have z6:=λu=>Al u T;go_wp2;refine Av k! k! ?_
    repeat (first|go_big_quiet_step ((go_at_call 134;with_reducible exact AV (E.out _)))|quiet_step ((go_at_call 134;with_reducible exact AV (E.out _))))
    refine Z4 ?_;rintro _ ⟨p,rfl⟩;have yw:=AE V1 p;obtain⟨V2,gF⟩:=Qnm (calm V1 p);rw[<-gF]at yw⊢;clear gF z3 z5 z6 E k0 k1 k2 k3 k4 Y T a;have ba:=bU Bg yw;have gn:=bU bc ba;by_cases r:C=true
    .subst r
     have B:=Zd (show R=(1,[]) from bV.out.trans (if_pos rfl));go_wp2;go_ret2;exact abo B.out gn
    have f9:C=false:=by cases C;rfl;exact absurd rfl r
    subst f9;clear r;have im:=Zd (show abb c.Aa (l.drop (k+3)) (f.set o y) o=R from(bV.out.trans (if_neg d!)).symm);have Q:=(ba.block q (by have:=(Za.1 Ci).1;exact this)).trans Ci;have dl:o<f.length:=by rw[U.out.2.1];exact ci
    have r0:=ch Q (acL f o dl);have f0:=cf (i:=o) Q;have iS:=Zd (show∀i,i<3->hasB (Iv t o) i=decide (nth (f.set o y) i≠0) from λi F=>by
     rw[adr t J o o! i F,U.out.2.2 i F,ads f o i y dl];by_cases e:o=i
     .rw[if_pos e,decide_eq_true e,decide_eq_true fx.2.2.1,Bool.or_true]
     rw[if_neg e,decide_eq_false e,Bool.or_false])
    have an:=Ba (i:=o) Q (.int .i64 y);rw[adq]at an;have pY:B3 q W3 (V2.setCell ⟨q,o,none⟩ (.int .i64 y)):=(hU.below ba).set;have HX:=Zd (ZY an pY);have ii:=Zd (Jl J (show o<3 by omega));have f8:=Zd (ab9 t o J o!);have M8:k+3<=l.length:=h3;clear an pY Q Ci;go_wp2;refine(f8.out _).mono ?_;rintro e jt ⟨rfl,H⟩;have H:=H.symm;subst H;go_wp2;go_roundg (l.length - (k+3))
    case rel=>exact⟨k+3,Iv t o,o,f.set o y,rfl,rfl,rfl,v!,M8,im.out,by rw[ZcC];exact U.out.2.1,ii.out,iS.out,o!,o!,HX.out.1,HX.out.2⟩
    omega
  have lQ:k=l.length:=o!
  have Qs:=Zd (U.out.1.symm.trans (ado o!));clear lQ;go_wp2;have ka:=Zd hU;have io:=Zd Ci;have fy:q<V:=(Za.1 Ci).1;clear k0 k1 k2 k4 Ci hU;go_loopg [92] c.Aa.length (λgg iv wr=>∃i:Nat,gg=c.Aa.length - i/\iv=.int .i64 i/\i<=c.Aa.length/\(∀j,j<i->ac2 c.Aa f j=false)/\Qb6 V wr)
  case atStart=>exact⟨0,rfl,rfl,Zp _,λj hj=>absurd hj o!,Zh _ _⟩
  obtain⟨i,rfl,rfl,F,fd,Jp⟩:=hrel;have b9:=Zd fd;clear fd;obtain⟨A,hA⟩:=Qnm wr;subst hA;have ap:=bU bc Jp;by_cases fi:i<c.Aa.length
  .obtain⟨M,o4,s2,s3,ea,UQ,Y,T,LO,et,mi,VK,ct⟩:=h.Aa.at_ (i:=i) fi
   subst ea;obtain⟨pa,pc,rfl,_⟩:=VK.val;obtain⟨ra,rc,rfl,_⟩:=ct.val;have a:∀ {d:Nat} {v:Zf},w.cell? ⟨M,d,none⟩=some v->A.cell? ⟨M,d,none⟩=some v:=λ{d v} h=>(ap.cell (p:=⟨M,d,none⟩) (hS M UQ)).trans h;have Y:=a Y;have T:=a T;have LO:=a LO;have et:=a et;have mi:=a mi;have i6:(i:Int)<(c.Aa.length:Int):=o!
   have i7:(0:Int)<=(i:Int):=o!
   obtain⟨Z,mK⟩:=Qnm ((Aj c.Aa i).low);obtain⟨hh,D⟩:∃F,F=(Aj c.Aa i).high:=⟨_,rfl⟩;obtain⟨pn,co⟩:∃n,n=(Aj c.Aa i).Ap.length:=⟨_,rfl⟩;obtain⟨rn,ck⟩:∃n,n=(Aj c.Aa i).over.length:=⟨_,rfl⟩;obtain⟨lf,xD⟩:∃n,n=(Aj c.Aa i).left:=⟨_,rfl⟩;rw[<-mK]at Y;rw[<-D]at T;rw[<-co]at LO;rw[<-ck]at et;rw[<-xD]at mi;obtain⟨hb,ai⟩:∃b,b=hasB t i:=⟨_,rfl⟩;have be:=Zd (show∀W,Calls Lp 122 #[.int .u8 t,.int .i64 i] W λe w'=>e=.returned (.bool hb)/\w'=W from λW=>by rw[ai];exact ab8 t i J o! W);have iV:=Zd (show hb=decide (nth f i≠0) from ai.trans (U.out.2.2 i o!));obtain⟨C,r⟩:=Qnm (AD 0 Z hh);have E:=Zd (show∀W,Calls Lp 134 #[.int .i64 0,.int .i64 Z,.int .i64 hh] W λe w'=>e=.returned (.bool C)/\w'=W from λW=>by rw[r];exact bp 0 Z hh W);have b8:=Zd (show ac2 c.Aa f i=(!hb&&C) from by
    unfold ac2;rw[iV.out,r,mK,D];by_cases e:nth f i=0<;>simp[e])
   clear ai r mK D co ck xD VK ct a;cases hb with
   |true=>
    have B:=Zd (show∀j,j<i+1->ac2 c.Aa f j=false from λj hj=>by
     by_cases e:j=i
     .rw[e,b8.out];rfl
     exact b9.out j o!)
    go_wp2_with (first|(go_at_call 122;refine(be.out _).mono ?_;rintro e A2 ⟨rfl,H⟩;obtain rfl:=H.symm));go_roundg (c.Aa.length - (i+1))
    case rel=>exact⟨i+1,rfl,v!,o!,B.out,bA Jp⟩
    case measure=>omega
   |false=>
    cases C with
    |true=>
     have B:=Zd (show R=(1,[]) from Qs.out.trans (if_pos (List.any_eq_true.2 ⟨i,List.mem_range.2 fi,b8.out⟩)));go_wp2_with (first|(go_at_call 122;refine(be.out _).mono ?_;rintro e A2 ⟨rfl,H⟩;obtain rfl:=H.symm)|(go_at_call 134;refine(E.out _).mono ?_;rintro e gt ⟨rfl,ac⟩;obtain rfl:=ac.symm));go_ret2;exact abo B.out (bA ap)
    |false=>
     have B:=Zd (show∀j,j<i+1->ac2 c.Aa f j=false from λj hj=>by
      by_cases e:j=i
      .rw[e,b8.out];rfl
      exact b9.out j o!)
     go_wp2_with (first|(go_at_call 122;refine(be.out _).mono ?_;rintro e A2 ⟨rfl,H⟩;obtain rfl:=H.symm)|(go_at_call 134;refine(E.out _).mono ?_;rintro e gt ⟨rfl,ac⟩;obtain rfl:=ac.symm));go_roundg (c.Aa.length - (i+1))
     case rel=>exact⟨i+1,rfl,v!,o!,B.out,bA Jp⟩
     omega
  have rU:i=c.Aa.length:=o!
  have B:=Zd (show R=(0,f) from Qs.out.trans (if_neg (λha=>by
   obtain⟨j,hj,hb⟩:=List.any_eq_true.1 ha;rw[b9.out j (by have:=List.mem_range.1 hj;omega)]at hb;cases hb)))
  have fw:=(Jp.block q fy).trans io.out;have g9:=Zd (adF (S:=Cb w A) fw ⟨K.2.1,by have:=Jp.size;omega⟩ (by rw[U.out.2.1];omega));have fK:=Zd U.out.2.1;clear fw;go_wp2;go_ret2;rw[<-fK.out];exact adu (by rw[B.out]) (by rw[B.out]) ap g9.out
 obtain⟨z,hz⟩:=Qnm (BN c);have B:=Zd (show abj c l=(z,[]) from by unfold abj;rw[if_neg Jz,hz]);have L:=c88 (h.later Ov) (A3 hS Ov);unfold agX at L;rw[<-hz]at L;rw[<-hz]at Jz;have ez:=Zd L;clear L hz;go_enter Lp.func81,n81;go_wp2;rw[<-hX];refine ez.out.mono ?_;rintro e W1 ⟨q1,q2,q3,q4,q5,x1,x2,x3,x4,x5,d1,d2,d3,d4,d5,y0,y1,y2,rfl,Bg,_⟩;have O:=bU Ov Bg;have hq:(z !=0)=true:=by simpa using Jz
 clear hX;go_wp2;go_ret2;exact abo B.out (bA O)
def aeR {Sn:Nat->Prop}{lv:Zf}{g:List Int}{p fu:Int}{ct:UInt8}(hn:SI Sn w lv g)(E8:∀x,Sn x->x<w.heap.size)(hG:Jr w):Calls Lp 22 #[lv,.string s,.int .i64 p,.int .i64 fu,.int .u8 (ct.toNat:Int)] w (Two w (.bool true)):=by
 obtain⟨la,lc,rfl,_⟩:=hn.val;have IX:maxLen=9223372036854775807:=rfl;have iX:=Zd (fun(W:Zb) (b d:Nat) (h1:SI Sn W (.slice la g.length lc) g) (h2:∀x,Sn x->x<W.heap.size/\x≠b) (h3:BK W b (.slice la g.length lc) d) (h4:d+1000<4611686018427387904)=>show Calls Lp 44 #[.pointer b,.int .i64 3] W (qL W b (.slice la g.length lc) d 3) from c44 (s:=3) h1 h2 h3 h4 d!);by_cases ka:40<(s.size:Int)
 .go_enter Lp.func22,n22
  go_wp2_with (go_at_call 26;refine(c26 _ hG).mono ?_;rintro e V ⟨Ui,rfl|⟨x,rfl,Ss⟩⟩)
  .go_ret
   exact⟨Ui,.inl rfl⟩
  exact⟨rfl,Ui,.inr ⟨_,rfl,Ss⟩⟩
 go_enter Lp.func22,n22;go_wp2_with (first|(go_at_call 27;refine(c27 _ ⟨_,_,_,rfl⟩ _).mono ?_;rintro e W1 ⟨rfl,hw⟩;(have M:Qb6 w W1:=by rw[hw];exact bA (Zh _ _));(have Ue:BK W1 w (.slice la g.length lc) 0:=⟨1,by rw[hw];exact Bp _ _⟩);clear hw;obtain⟨b,hb⟩:=Qnm w.heap.size;rw[<-hb]at Ue⊢;have HB:=Zd hb;clear hb)|(go_at_call 44;refine(iX.out _ _ _ (hn.later M) (λx j=>⟨by have:=E8 x j;have:=M.size;omega,by have:=E8 x j;have:=HB.out;omega⟩) Ue o!).mono ?_;rintro e W2 ⟨c,u1,u2,u3,u4,u5,d2,rfl,M7,i9,yv,hM,jn⟩;obtain⟨a1,c1,a2,c2,a3,c3,a4,c4,a5,c5,rfl,rfl,rfl,rfl,rfl,_⟩:=yv.vs));have GK:b<=w.heap.size/\w<=b:=by have:=HB.out;omega
 have DR:=M.size;have FD:b<W1:=Ue.lt;have EB:=M7.Cn.size;have Bb:=B3.aj4 M M7.Cn o!;have Xo:=(hn.later M).Cn M7.Cn (λx j=>⟨by have:=E8 x j;omega,by have:=E8 x j;omega⟩);obtain⟨X,hX⟩:=Qnm (W2.alloc (.cells (Qe6 c a1 c1 a2 c2 a3 c3 a4 c4 a5 c5) 26));have Ov:Qb6 W2 X:=by rw[hX];exact bA (Zh _ _)
 have hK:X.heap[W2.heap.size]?=some (.cells (Qe6 c a1 c1 a2 c2 a3 c3 a4 c4 a5 c5) 26 (0,0)):=by rw[hX];exact Bp _ _
 obtain⟨q,hq⟩:=Qnm W2.heap.size;rw[<-hq]at hK;rw[<-hX, <-hq];have xS:q<X:=(Za.1 hK).1;have M9:W2<=q/\q<=W2.heap.size:=o!
 clear hX hq;have Jm:=hM.few;have hS:∀x,Cb W1 W2 x->x<X.heap.size/\x≠b:=λx j=>⟨by have:=j.2;have:=Ov.size;omega,by have:=j.1;omega⟩;have ck:=Xo.later Ov;have fm:∀x,Sn x->x<X.heap.size/\x≠b:=λx j=>⟨by have:=E8 x j;have:=Ov.size;omega,by have:=E8 x j;omega⟩;have bi:=yv.later Ov;have fx:=Zd (ajk bi hS ck fm (M7.E4.later Ov) o! o! λi hi=>by have:=(hM.valid.step i hi);omega);refine fx.out.mono ?_;rintro e L ⟨v5,st,d5,rfl,cN,xZ,fH,am,Xc,ci⟩;obtain⟨b8,bV,rfl,_⟩:=am.si.val;have p9:=cN.size;have Jz:=hM.begin;have hv:=hM.valid;have Jw:Tc c st:=⟨Xc,λi hi=>by
  have h1:=ci i o!;have h2:=hv.step i o!;exact⟨h1.1,h1.2 o!⟩⟩
 have be:=hM.asked Jw;have g9:Qb6 w X:=bU Bb Ov;have fi:=B3.aj4 g9 cN o!;have fK:=hG.later fi;have co:=bi.Ar (cN.same λx j=>(hS x j).2);have HR:=Zd (show∀W,Qb6 L W->RC (λy=>y<W.heap.size) W (.slice a1 c.base.length c1) (.slice a2 c.Af.length c2) (.slice a3 c.hooks.length c3) (.slice a4 c.Aa.length c4) (.slice a5 c.now.length c5) c from λW z=>(co.later z).imp λx j=>by have:=(hS x j).1;have:=z.size;show x<W;omega);have qO:=Zd (show∀W,Qb6 L W->SI (λy=>y<W.heap.size) W (.slice b8 st.length bV) st from λW z=>Sl.imp (am.si.later z) (λx j=>by have:=j.2;have:=z.size;show x<W;omega) λ_ _ x=>x);have HK:=Zd (show∀W,Qb6 L W->W.heap[q]?=some (.cells (Qe6 c a1 c1 a2 c2 a3 c3 a4 c4 a5 c5) 26 (0,0)) from λW z=>(z.block _ o!).trans (cN.at_ hK o!));have i8:c.Aa.length<=3:=Jm.2;obtain⟨D,F⟩:∃v:ByteArray,v=⟨(F3 st st.length).toArray⟩:=⟨_,rfl⟩;have i5:D.size<=3*c.Aa.length:=by rw[F, <-Xc];exact Vj st st.length
 have KB:abj c D.data.toList=(0,st):=by rw[F];exact adg Jz Jw
 have t:=c69 (HR.out L (Zh _ _)) (qO.out L (Zh _ _)) (λy l=>l);rw[be,show M3 c st=F3 st st.length from if_pos be, <-F]at t;have K:=Zd t;have o:=λW (z:Qb6 L W)=>c81 D (HR.out W z) (λy l=>l) o!;rw[KB]at o;have E:=Zd o;have kw:=Zd Jz;have iW:=Zd (λW (z:Qb6 L W) (a:ByteArray) (m:a.size<=1000)=>c81 a (HR.out W z) (λy l=>l) m);clear t o KB F be Jw ci am co bi cN xZ fH hK fx hS ck fm hn E8 Jz hv hM yv M7 Ue Xc;have ip:=HK.out L (Zh _ _);obtain⟨Q,k1,P,O,N⟩:=Qc5 ip;go_wp2;refine K.out.mono ?_;rintro e W6 ⟨rfl,DM⟩;clear Q k1 P O N;have io:=HK.out W6 DM;obtain⟨Q,k1,P,O,N⟩:=Qc5 io;go_wp2;refine(E.out _ DM).mono ?_;rintro e W7 ⟨gt,ga,gk,rfl,fd⟩;have NU:=bU DM gt;clear Q k1 P O N;have im:=HK.out W7 NU;obtain⟨Q,k1,P,O,N⟩:=Qc5 im;have i6:¬3*(c.Aa.length:Int)<(D.size:Int):=o!
 have mM:IntKind.i64.wrap (3*(c.Aa.length:Int))=3*(c.Aa.length:Int):=by rw[zE];omega
 have cL:=Zd (show Calls Lp 46 #[.slice ga st.length gk,.slice b8 st.length bV] W7 λe w'=>e=.returned (.bool true)/\Qb6 W7 w' from by
  have:=c46 (Sl.imp fd (T:=λy=>y<W7.heap.size) (λy l=>l.2) λ_ _ x=>x) (qO.out W7 NU) (λy l=>l) (λy l=>l);rwa[show Ke st st=true from decide_eq_true rfl]at this)
 go_wp2;refine cL.out.mono ?_;rintro e W8 ⟨rfl,gn⟩;have Jn:=bU NU gn;clear Q k1 P O N;have fw:=Zd (λW=>c80 D p fu ct W o!);go_wp2;refine(fw.out _).mono ?_;rintro e Z ⟨gj,tv,rfl,i7⟩;have f8:=bU Jn gj;go_wp2;obtain⟨Y,hY⟩:=Qnm (Z.alloc (.cells #[.string s,.string tv] 9));have f9:Qb6 Z Y:=by rw[hY];exact bA (Zh _ _)
 have an:Y.heap[Z.heap.size]?=some (.cells #[.string s,.string tv] 9 (0,0)):=by rw[hY];exact Bp _ _
 obtain⟨qs,ac⟩:=Qnm Z.heap.size;rw[<-ac]at an;rw[<-hY, <-ac];clear hY ac;have bc:=bU f8 f9;have m:∀k,k<2->∃a:ByteArray,(#[.string s,.string tv]:Array Zf)[k]?=some (.string a)/\a.size<=1000:=by
  intro k hk;obtain rfl|rfl:k=0\/k=1:=o!
  .exact⟨_,rfl,o!⟩
  exact⟨_,rfl,o!⟩
 have iS:=Zd m;clear m K E cL fw fd;go_loopg [19] 2 (λgg i wr=>∃k:Nat,k<=2/\gg=2 - k/\i=.int .i64 k/\Qb6 Y wr)
 case atStart=>exact⟨0,d!,rfl,rfl,Zh _ _⟩
 obtain⟨k,hk,rfl,rfl,C⟩:=hrel;obtain⟨V,hV⟩:=Qnm wr;subst hV;have ba:=bU bc C;by_cases Az:k<2
 .obtain⟨a,m,fy⟩:=iS.out k Az
  have G:=(C.cell (ZH _ _ (ch an m))).trans (ch an m);have TB:(k:Int)<2:=o!
  have jt:(0:Int)<=(k:Int):=o!
  have fI:=HK.out V ba;obtain⟨B,R⟩:∃r,r=(abj c a.data.toList).2:=⟨_,rfl⟩;obtain⟨A,U⟩:∃r,r=(abj c a.data.toList).1:=⟨_,rfl⟩;have o:=λW (z:Qb6 V W)=>iW.out W (bU ba z) a fy;rw[<-R, <-U]at o;have E:=Zd o;have iV:=Zd (show abj c a.data.toList=(A,B) by rw[U,R]);clear o R U;obtain⟨z0,z1,z2,z3,z4⟩:=Qz5 fI;have z5:=λu=>Al u G;go_wp2;refine abq (S:=λW=>∃p,W=calm V p) 11 [] (.one 5 (.free 6 (.free 7 (.free 8 (.one 9 (.one 10 .leaf)))))) [0,1,2,3,4] k! (λ_ _ d _ _ h=>by cases d<;>exact h) k! (AL (Zh _ _).drew) ?_;refine A4 _ _ k! ?_;simp only[Z6,zd,ZG,ZD,ZC]
  repeat (first|go_big_quiet_step (fail)|quiet_step (fail))
  refine Z4 ?_;clear z0 z1 z2 z3 z4 z5;change abl _ _ _ _ _ _ _ _;have Uh:YH V V V.drew:=(Zh _ _).drew;refine adD (f:=81) (args:= #[.agg (Qe6 c a1 c1 a2 c2 a3 c3 a4 c4 a5 c5),.string a]) rfl rfl g! ((E.out _ Uh).mono ?_);rintro e J ⟨M,va,I,rfl,xf⟩;have H:Qb6 V J:=bU Uh M;have n:∃p,J=calm V p:=AL H;refine .inl ⟨_,rfl,.inr n,?_⟩;refine abg (v:=.tuple #[.slice va B.length I,.int .i64 A]) n rfl rfl (λw _=>g!) ?_;refine abg (v:=.slice va B.length I) n rfl rfl (λw _=>g!) ?_;refine abg (v:=.int .i64 A) n rfl rfl (λw _=>g!) ?_;refine abx (v:=.slice va B.length I) (w':=J) rfl rfl g! (.inr n) ?_;refine abx (v:=.int .i64 A) (w':=J) rfl rfl g! (.inr n) ?_;unfold abl
  go_simp
  clear n Uh M E;have ed:=bU C H;by_cases hE:A=0
  case neg=>
   have hq:(A !=0)=true:=by simpa using hE
   go_wp2;go_roundg (2 - (k+1))
   case rel=>exact⟨k+1,Az,rfl,v!,ed⟩
   omega
  subst hE;obtain⟨ai,b9⟩:=ad5 iV.out;have du:=bU ba H;have t:=c69 (HR.out J du) (Sl.imp xf (T:=λy=>y<J.heap.size) (λy l=>l.2) λ_ _ x=>x) (λy l=>l);rw[ai,show M3 c B=a.data.toList from(if_pos ai).trans b9]at t;have K:=Zd (show Calls Lp 69 #[.agg #[.slice a1 c.base.length c1,.slice a2 c.Af.length c2,.slice a3 c.hooks.length c3,.slice a4 c.Aa.length c4,.slice a5 c.now.length c5],.slice va B.length I] J λe w'=>e=.returned (.tuple #[.string a,.int .i64 0])/\Qb6 J w' from t);clear t ai b9 xf;have l_:=HK.out J du;obtain⟨Q,k1,P,O,N⟩:=Qc5 l_;have ap:=(H.cell (ZH _ _ G)).trans G;go_wp2;refine K.out.mono ?_;rintro e V2 ⟨rfl,dl⟩;have jp:=(dl.cell (ZH _ _ ap)).trans ap;have ii:=bU ed dl;clear Q k1 P O N ap G;go_wp2;go_roundg (2 - (k+1))
  case rel=>exact⟨k+1,Az,rfl,v!,ii⟩
  omega
 have Lc:=bU fi (bU bc C);have fJ:=fK.later (bU bc C);go_wp2_with (go_at_call 26;refine(c26 _ fJ).mono ?_;rintro e V ⟨Ui,rfl|⟨x,rfl,Ss⟩⟩)
 .go_ret
  exact⟨bU Lc Ui,.inl rfl⟩
 exact⟨rfl,bU Lc Ui,.inr ⟨_,rfl,Ss⟩⟩
end Go.Proofs.Fit
namespace Go.Proofs.YtkkjobdfheidkaaGreatDoor
open Go Go.Conc Go.RowKit Go.Proofs.Fit
set_option maxRecDepth 100000
def adj:(Rows.seamStringsRow.inPlace==Tryz.prog.inPlace 22)=true:=k!
def acv:(Rows.seamStringsRow.unfollowed==Tryz.prog.unfollowed 22)=true:=k!
def ad6:(Rows.seamStringsRow.recurses==Tryz.prog.recurses 22)=true:=k!
def adI:(Rows.seamStringsRow.named==Tryz.prog.varsNamed 22)=true:=k!
def adJ:joinedFacts Zc 22 Tryz.f22 Rows.seamStringsSpec Rows.seamStringsRow=true:=
 kQ k! k! k! k! k! adj acv ad6 adI k! k! k! k! k! k! k! k! k! rfl rfl rfl rfl rfl rfl k! k! k!
def adv (os:Os)(a:os.Started)(H:Type)(enc:Zs×Zf->H):ReturnsInLeavingWide {} Tryz.checked os 22 .any (λw args=>(Rows.seamStringsSpec.pre enc Zc Tryz.f22 [] false w args/\laidMetH Zc PT w)/\sizedMet enc Zc Tryz.f22 (ZbV Rows.seamStringsSpec) false w args)
   (Rows.seamStringsSpec.post enc Zc Tryz.f22 false true false false):=
 eO (s:=Rows.seamStringsSpec) a rfl rfl Tryz.func22 rfl rfl k! k! rfl k! (λf h=>by
    match f,h with
    | [_,_,_,_,_],_=>rfl)
   (ChangeSpec.witness_shaped (enc:=enc) (C:=Tryz.checked) (os:=os) (X:=λw _=>laidMetH Zc PT w) false (Vg os) #[(),.string ⟨#[]⟩,.int .i64 0,.int .i64 0,.int .u8 0] 8 rfl (World.shaped_of_RefB k! k!) k! k! k! (Ub os _))
   (λW base args f l c j _ d=>adz rfl c j d λw k s p q b e i d=>aeR i (λx g=>g) d)
def af8:Rows.SeamStringsSaid:=
 OpenClaim.holds_of_wide_leaving 22 Tryz.f22 rfl rfl rfl rfl rfl rfl rfl ⟨rfl,rfl,rfl,rfl,rfl⟩ rfl rfl rfl rfl rfl k! Tryz.func22 adJ
  (of_decide_eq_true k!) (by unfold Func.isWrapper;rw[if_neg (by decide+kernel)];exact⟨rfl,rfl⟩) (λc a H b _=>adv c a H b)
def aeC:true=Rows.seamStringsRow.goesBy Tryz.pinned.checked.prog:=k!
theorem strings_holds:Rows.SeamStringsCardSaid:=
 kM [.handle] (true,"d58ada5a772cea19d6c1f322b38be8e13f90afce78f95e9e644b853f050ce369") af8 k! (OpenClaim.laidByTextAt_later rfl rfl qd abD) rfl ⟨rfl,rfl⟩ uI
  (λf fn c d=>by
   obtain rfl:f=22:=ZW ((show Tryz.prog.funcNamed "galloon/galloonlaw02.SeamStrings" =some 22 by kernel_rfl).symm.trans c)|>.symm;obtain rfl:fn=Tryz.f22:=(ZW (Tryz.func22.symm.trans d)).symm;exact⟨abE,λj t a=>by
    have b:t∈ [22,9,3,3,5]:=by simpa using zY a
    have e:([22,9,3,3,5].all λu=> !Tryz.prog.wantsStandIn u)=true:=k!
    exact(show Tryz.prog.wantsStandIn t=false by simpa using Zdm.1 e t b)⟩)
  aeC
#print axioms strings_holds
end Go.Proofs.YtkkjobdfheidkaaGreatDoor
