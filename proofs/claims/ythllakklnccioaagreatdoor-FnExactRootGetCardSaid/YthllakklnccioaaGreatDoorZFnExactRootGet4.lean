/- FnExactRootGet: the program's RootGet returns what the reference's returns, for all arguments. (part 5 of 7: JkMF22, JkMF13, JkMF53, JkMF15, JkMF76, JkMF36, JkMF25, JkMF16, JkMPuL, JkMF54, JkMF112, JkMF18v0, JkMF60v0, JkMF26v0, JkMF17v0, JkMF19, JkMF68, JkMF31, JkMPuHa, JkMF303, JkMF284, JkMF296, JkMF294, Jk) Conditions: none beyond the statement. -/
import Derived.Test.YthllakklnccioaaGreatDoorZFnExactRootGet3
import Derived.Tactics
import Derived.Deep.RegionLaw
import Derived.Shelf.Abstract
import Derived.Test.YthllakklnccioaaGreatDoorProg
import Derived.KernelRfl
import Derived.Shelf.LaysM
import Derived.Shelf.Strconv.Itoa3
import Derived.Shelf.Strings.IndexAnyAll
import Derived.Laws.RangeAny
import Derived.Lib.OthersKept
import Derived.Shelf.Small.Utf8
import Derived.Laws.Runes
import Derived.Laws.Cover4
import Derived.WalkMore
import Derived.Shelf.RegionOpenPlain
set_option linter.unusedSimpArgs false
set_option maxRecDepth 100000
set_option linter.unusedVariables false
namespace Go.Proofs
open Go.Jk
abbrev JG:Shape:=⟨[aM 0 .pack,a' 3 3000192,ad 4],[(3000192,.deep .pack,.slot 3 0)],23⟩
abbrev Tr:List aR:=[(.exit 0,⟨[a' 3 3000192],[(3000192,.deep .pack,.slot 3 0)],23⟩)]
noncomputable def alM(y:JG.J):bR JG Tr:=
 bif(decide (y.1.2.2.1<(y.1.1.length:Int))) then
(aQ y.1.1 y.1.2.2.1).bind fun a=>
(f34 (((a.name,a.aW,a.bh,a.bK,()),()),())).bind fun b=>
(aU y.2.1.length y.1.2.2.1).bind fun c=>
((y.2.1[c]?).bind fun _=>some (aT.mk b.2.2.2.1.1 b.2.2.2.1.2.1 b.2.1 b.2.2.1)).bind fun d=>
 some (.inl ((y.1.1,(),(IntKind.i64.wrap (y.1.2.2.1+(1:Int))),()),(y.2.1.set c d),()))
else
 some (.inr (((),()),y.2.1,()))
noncomputable def alB:JG.J->Option (aF Tr):=bu alM
abbrev i22:Shape:=⟨[aM 0 .pack],[],23⟩
abbrev asW:Shape:=⟨[a' 2 3000128],[(3000128,.deep .pack,.slot 2 0)],23⟩
noncomputable def f22(a:i22.J):Option asW.J:=
(j2 80 (a.1.1.length:Int) (a.1.1.length:Int) (aT.mk ([]:F) ([]:F) ([]:List bG) ([]:List aG))).bind fun b=>
(alB ((a.1.1,(),(0:Int),()),b,())).bind fun c=>
 some (((),()),c.2.1,())
abbrev i13:Shape:=⟨[dw 0 [dA .pack]],[],9⟩
abbrev ZV:Shape:=⟨[a8 2 2 0],[(5000128,.deep .pack,.cell 2 0),a7 2 [.own 5000128]],9⟩
noncomputable def f13(a:i13.J):Option ZV.J:=
(f22 ((a.1.1.1,()),())).bind fun b=>
 some (((),()),b.2.1,((),()),())
noncomputable def _7:aK:=a6 zn Tryz.f13 i13 ZV [] f13
abbrev i53:Shape:=⟨[dw 0 [ax,bz,bz,ax],dw 1 [ax,bz,bz,ax]],[],25⟩
abbrev ZI:Shape:=⟨[aC 4],[],25⟩
noncomputable def f53(a:i53.J):Option ZI.J:=
 bif(!(a.1.1.1==a.1.2.1.1)) then
 some ((false,()),())
else
 bif(a.1.1.2.1 !=a.1.2.1.2.1) then
 some ((false,()),())
else
 bif(a.1.1.2.2.1 !=a.1.2.1.2.2.1) then
 some ((false,()),())
else
 bif(!(a.1.1.2.2.2.1==a.1.2.1.2.2.2.1)) then
 some ((false,()),())
else
 some ((true,()),())
noncomputable def _T:aK:=a6 ak Tryz.f53 i53 ZI [] f53
theorem z53:aL Z 53 _T:=ba g0 Tryz.func53 (by kernel_rfl) aj (fun y=>by kernel_rfl) fun a=>by kernel_rfl
noncomputable abbrev avy:bl:=[(53,_T)]
theorem aan:bc Z (bi ak avy):=bj ⟨z53,⟨⟩⟩
abbrev Cs:Shape:=⟨[aM 0 .entry,aM 1 .entry,ad 5],[],27⟩
abbrev JD:List aR:=[(.ret,⟨[aC 4],[],27⟩),(.exit 0,⟨[],[],27⟩)]
noncomputable def CN(y:Cs.J):bR Cs JD:=
 bif(decide (y.1.2.2.1<(y.1.1.length:Int))) then
(aQ y.1.1 y.1.2.2.1).bind fun a=>
(aQ y.1.2.1 y.1.2.2.1).bind fun b=>
(f53 (((a.path,a.kind,a.mode,a.text,()),(b.path,b.kind,b.mode,b.text,()),()),())).bind fun c=>
 bif(!c.1.1) then
 some (.inr (.inl ((false,()),())))
else
 some (.inl ((y.1.1,y.1.2.1,(IntKind.i64.wrap (y.1.2.2.1+(1:Int))),()),()))
else
 some (.inr (.inr ((),())))
noncomputable def J0:Cs.J->Option (aF JD):=bu CN
theorem alm:aX Z (ap (codeOf Tryz.f15) 1 58) (bb Cs JD J0):=bW aan (by kernel_rfl) aj fun y=>by kernel_rfl
abbrev i15:Shape:=⟨[aM 0 .entry,aM 1 .entry],[],27⟩
abbrev ZU:Shape:=⟨[aC 4],[],27⟩
noncomputable def f15(a:i15.J):Option ZU.J:=
 bif((a.1.1.length:Int) !=(a.1.2.1.length:Int)) then
 some ((false,()),())
else
(J0 ((a.1.1,a.1.2.1,(0:Int),()),())).bind fun b=>
(match b with
|.inl c=>
 some ((c.1.1,()),())
|.inr d=>
 some ((true,()),()))
noncomputable def yX:aK:=a6 ak Tryz.f15 i15 ZU [] f15
theorem asf:aL Z 15 yX:=ba aan Tryz.func15 (by kernel_rfl) (bd alm aj) (fun y=>by kernel_rfl) fun a=>by kernel_rfl
noncomputable abbrev avg:bl:=[(125,YO)]
theorem aad:bc Z (bi ak avg):=bj ⟨aoq,⟨⟩⟩
abbrev Cl:Shape:=⟨[aM 0 .need,aM 1 .need,ad 5],[],27⟩
abbrev Jx:List aR:=[(.ret,⟨[aC 4],[],27⟩),(.exit 0,⟨[],[],27⟩)]
noncomputable def CI(y:Cl.J):bR Cl Jx:=
 bif(decide (y.1.2.2.1<(y.1.1.length:Int))) then
(aQ y.1.1 y.1.2.2.1).bind fun a=>
(aQ y.1.2.1 y.1.2.2.1).bind fun b=>
(f125 (((a.name,a.kind,a.aW,()),(b.name,b.kind,b.aW,()),()),())).bind fun c=>
 bif(!c.1.1) then
 some (.inr (.inl ((false,()),())))
else
 some (.inl ((y.1.1,y.1.2.1,(IntKind.i64.wrap (y.1.2.2.1+(1:Int))),()),()))
else
 some (.inr (.inr ((),())))
noncomputable def JT:Cl.J->Option (aF Jx):=bu CI
theorem alb:aX Z (ap (codeOf Tryz.f76) 1 58) (bb Cl Jx JT):=bW aad (by kernel_rfl) aj fun y=>by kernel_rfl
abbrev i76:Shape:=⟨[aM 0 .need,aM 1 .need],[],27⟩
abbrev ZC:Shape:=⟨[aC 4],[],27⟩
noncomputable def f76(a:i76.J):Option ZC.J:=
 bif((a.1.1.length:Int) !=(a.1.2.1.length:Int)) then
 some ((false,()),())
else
(JT ((a.1.1,a.1.2.1,(0:Int),()),())).bind fun b=>
(match b with
|.inl c=>
 some ((c.1.1,()),())
|.inr d=>
 some ((true,()),()))
noncomputable def _P:aK:=a6 ak Tryz.f76 i76 ZC [] f76
theorem z76:aL Z 76 _P:=ba aad Tryz.func76 (by kernel_rfl) (bd alb aj) (fun y=>by kernel_rfl) fun a=>by kernel_rfl
noncomputable abbrev avr:bl:=[(15,yX),(76,_P)]
theorem avG:bc Z (bi ak avr):=bj ⟨asf,z76,⟨⟩⟩
abbrev i36:Shape:=⟨[dw 0 [ax,ax,dA .need,dA .entry],dw 1 [ax,ax,dA .need,dA .entry]],[],27⟩
abbrev ZN:Shape:=⟨[aC 4],[],27⟩
noncomputable def f36(a:i36.J):Option ZN.J:=
 bif(!(a.1.1.1==a.1.2.1.1)) then
 some ((false,()),())
else
 bif(!(a.1.1.2.1==a.1.2.1.2.1)) then
 some ((false,()),())
else
(f76 ((a.1.1.2.2.1,a.1.2.1.2.2.1,()),())).bind fun b=>
 bif(!b.1.1) then
 some ((false,()),())
else
(f15 ((a.1.1.2.2.2.1,a.1.2.1.2.2.2.1,()),())).bind fun c=>
 bif(!c.1.1) then
 some ((false,()),())
else
 some ((true,()),())
noncomputable def _0:aK:=a6 ak Tryz.f36 i36 ZN [] f36
theorem asa:aL Z 36 _0:=ba avG Tryz.func36 (by kernel_rfl) aj (fun y=>by kernel_rfl) fun a=>by kernel_rfl
noncomputable abbrev avu:bl:=[(36,_0)]
theorem aak:bc Z (bi ak avu):=bj ⟨asa,⟨⟩⟩
abbrev Cr:Shape:=⟨[aM 0 .pack,aM 1 .pack,ad 5],[],27⟩
abbrev JB:List aR:=[(.ret,⟨[aC 4],[],27⟩),(.exit 0,⟨[],[],27⟩)]
noncomputable def CM(y:Cr.J):bR Cr JB:=
 bif(decide (y.1.2.2.1<(y.1.1.length:Int))) then
(aQ y.1.1 y.1.2.2.1).bind fun a=>
(aQ y.1.2.1 y.1.2.2.1).bind fun b=>
(f36 (((a.name,a.aW,a.bh,a.bK,()),(b.name,b.aW,b.bh,b.bK,()),()),())).bind fun c=>
 bif(!c.1.1) then
 some (.inr (.inl ((false,()),())))
else
 some (.inl ((y.1.1,y.1.2.1,(IntKind.i64.wrap (y.1.2.2.1+(1:Int))),()),()))
else
 some (.inr (.inr ((),())))
noncomputable def JY:Cr.J->Option (aF JB):=bu CM
theorem alj:aX Z (ap (codeOf Tryz.f25) 1 58) (bb Cr JB JY):=bW aak (by kernel_rfl) aj fun y=>by kernel_rfl
abbrev i25:Shape:=⟨[aM 0 .pack,aM 1 .pack],[],27⟩
abbrev ZQ:Shape:=⟨[aC 4],[],27⟩
noncomputable def f25(a:i25.J):Option ZQ.J:=
 bif((a.1.1.length:Int) !=(a.1.2.1.length:Int)) then
 some ((false,()),())
else
(JY ((a.1.1,a.1.2.1,(0:Int),()),())).bind fun b=>
(match b with
|.inl c=>
 some ((c.1.1,()),())
|.inr d=>
 some ((true,()),()))
noncomputable def _3:aK:=a6 ak Tryz.f25 i25 ZQ [] f25
theorem asc:aL Z 25 _3:=ba aak Tryz.func25 (by kernel_rfl) (bd alj aj) (fun y=>by kernel_rfl) fun a=>by kernel_rfl
noncomputable abbrev avx:bl:=[(25,_3)]
theorem avJ:bc Z (bi ak avx):=bj ⟨asc,⟨⟩⟩
abbrev i16:Shape:=⟨[dw 0 [dA .pack],dw 1 [dA .pack]],[],11⟩
abbrev ZT:Shape:=⟨[aC 4],[],11⟩
noncomputable def f16(a:i16.J):Option ZT.J:=
(f25 ((a.1.1.1,a.1.2.1.1,()),())).bind fun b=>
 bif(!b.1.1) then
 some ((false,()),())
else
 some ((true,()),())
noncomputable def _6:aK:=a6 ak Tryz.f16 i16 ZT [] f16
theorem ase:aL Z 16 _6:=ba avJ Tryz.func16 (by kernel_rfl) aj (fun y=>by kernel_rfl) fun a=>by kernel_rfl
abbrev E4(n:Nat):Prop:=n<=1048576
theorem GD{aB:Type}:∀(xs:List aB) (i:Nat),allI (fun _ _=>true) i xs=true:=by
 intro xs;induction xs with
 |nil=>intro i;rfl
 |cons x r ih=>intro i;simp only[allI,ih,Bool.and_self]
theorem wh(a:Int):(a !=a)=false:=by simp
theorem agQ(a)(h:a.1.1=a.1.2.1):f125 a=some ((true,()),()):=by
 obtain⟨⟨x,y,u⟩,b9⟩:=a;have h:x=y:=h;subst h;simp only[f125,beq_self_eq_true,Bool.not_true,cond_false,wh]
theorem aeX(a)(h:a.1.1=a.1.2.1):f53 a=some ((true,()),()):=by
 obtain⟨⟨x,y,u⟩,b9⟩:=a;have h:x=y:=h;subst h;simp only[f53,beq_self_eq_true,Bool.not_true,cond_false,wh]
theorem aeW(xs:List bG)(hs:cN xs.length):f76 ((xs,(xs,())),())=some ((true,()),()):=by
 have key:JT ((xs,(xs,((0:Int),()))),())=some (bif allI (fun _ _=>true) 0 xs then .inr ((),()) else .inl ((false,()),())):=by
  refine gS CI xs (fun i=>((xs,(xs,((i:Int),()))),())) _ _ _ (fun i x hx=>?_) ?_
  ·have hi:=dj hx;have hw:am i:=by unfold am;omega
   simp only[CI,cn hi,cond_true,cc,hx,Option.bind_some,agQ (((x.name,(x.kind,(x.aW,()))),((x.name,(x.kind,(x.aW,()))),())),()) rfl,Bool.not_true,cond_false,b6 hw]
  ·simp only[CI,dr,cond_false]
 rw[GD] at key;simp only[f76,wh,cond_false,key,cond_true,Option.bind_some]
theorem adD(xs:List aG)(hs:cN xs.length):f15 ((xs,(xs,())),())=some ((true,()),()):=by
 have key:J0 ((xs,(xs,((0:Int),()))),())=some (bif allI (fun _ _=>true) 0 xs then .inr ((),()) else .inl ((false,()),())):=by
  refine gS CN xs (fun i=>((xs,(xs,((i:Int),()))),())) _ _ _ (fun i x hx=>?_) ?_
  ·have hi:=dj hx;have hw:am i:=by unfold am;omega
   simp only[CN,cn hi,cond_true,cc,hx,Option.bind_some,aeX (((x.path,(x.kind,(x.mode,(x.text,())))),((x.path,(x.kind,(x.mode,(x.text,())))),())),()) rfl,Bool.not_true,cond_false,b6 hw]
  ·simp only[CN,dr,cond_false]
 rw[GD] at key;simp only[f15,wh,cond_false,key,cond_true,Option.bind_some]
theorem agP(x:aT)(h:k6 x):f36 (((x.name,(x.aW,(x.bh,(x.bK,())))),((x.name,(x.aW,(x.bh,(x.bK,())))),())),())=some ((true,()),()):=by
 simp only[f36,beq_self_eq_true,Bool.not_true,cond_false,aeW _ h.2.2.1.1,adD _ h.2.2.2.1,Option.bind_some]
theorem aeV(xs:List aT)(hs:ic xs):f25 ((xs,(xs,())),())=some ((true,()),()):=by
 have hl:xs.length<=2097152:=hs.1;have key:JY ((xs,(xs,((0:Int),()))),())=some (bif allI (fun _ _=>true) 0 xs then .inr ((),()) else .inl ((false,()),())):=by
  refine gS CM xs (fun i=>((xs,(xs,((i:Int),()))),())) _ _ _ (fun i x hx=>?_) ?_
  ·have hi:=dj hx;have hw:am i:=by unfold am;omega
   simp only[CM,cn hi,cond_true,cc,hx,Option.bind_some,agP x (hs.2 x (List.mem_of_getElem? hx)),Bool.not_true,cond_false,b6 hw]
  ·simp only[CM,dr,cond_false]
 rw[GD] at key;simp only[f25,wh,cond_false,key,cond_true,Option.bind_some]
theorem Q0(xs:List aT)(hs:ic xs):f16 (((xs,()),((xs,()),())),())=some ((true,()),()):=by
 simp only[f16,aeV xs hs,Option.bind_some,Bool.not_true,cond_false]
abbrev Cn:Shape:=⟨[ad 0,aq 3],[],20⟩
abbrev Jz:List aR:=[(.exit 0,⟨[aq 3],[],20⟩)]
noncomputable def J8(y:Cn.J):bR Cn Jz:=
 bif(decide (y.1.1>(0:Int))) then
(lr y.1.1 (10:Int)).bind fun a=>
(ch (strOf ([(IntKind.u8.wrap (IntKind.i64.wrap ((48:Int)+a)))]:List Int)) y.1.2.1).bind fun b=>
(nc .i64 y.1.1 (10:Int)).bind fun c=>
 some (.inl ((c,b,()),()))
else
 some (.inr ((y.1.2.1,()),()))
noncomputable def JV:Cn.J->Option (aF Jz):=bu J8
theorem ale:aX Z (ap (codeOf Tryz.f54) 1 60) (bb Cn Jz JV):=bW g0 (by kernel_rfl) aj fun y=>by kernel_rfl
abbrev i54:Shape:=⟨[ad 0],[],20⟩
abbrev ZH:Shape:=⟨[aq 2],[],20⟩
noncomputable def f54(a:i54.J):Option ZH.J:=
 bif(decide (a.1.1<=(0:Int))) then
 some ((([109,48]:F),()),())
else
(JV ((a.1.1,([]:F),()),())).bind fun b=>
(ch ([109]:F) b.1.1).bind fun c=>
 some ((c,()),())
noncomputable def sO:aK:=a6 ak Tryz.f54 i54 ZH [] f54
theorem u4:aL Z 54 sO:=ba g0 Tryz.func54 (by kernel_rfl) (bd ale aj) (fun y=>by kernel_rfl) fun a=>by kernel_rfl
noncomputable abbrev ari:bl:=[(54,sO)]
theorem Zc:bc Z (bi ak ari):=bj ⟨u4,⟨⟩⟩
abbrev wG:Shape:=⟨[aM 0 .need,ad 1,ad 5],[],42⟩
abbrev Iu:List aR:=[(.ret,⟨[ad 4],[],42⟩),(.exit 0,⟨[ad 1],[],42⟩)]
noncomputable def wX(y:wG.J):bR wG Iu:=
 bif(decide (y.1.2.2.1<(y.1.1.length:Int))) then
(aQ y.1.1 y.1.2.2.1).bind fun a=>
(f54 ((y.1.2.1,()),())).bind fun b=>
 bif(!(a.name==b.1.1)) then
 some (.inr (.inl ((((-1):Int),()),())))
else
(aQ y.1.1 y.1.2.2.1).bind fun c=>
 bif(c.kind !=(IntKind.i64.wrap (y.1.2.1+(1:Int)))) then
 some (.inr (.inl ((((-1):Int),()),())))
else
(aQ y.1.1 y.1.2.2.1).bind fun d=>
(f54 (((IntKind.i64.wrap ((IntKind.i64.wrap (y.1.2.1+(1:Int)))+(1:Int))),()),())).bind fun e=>
 bif(!(d.aW==e.1.1)) then
 some (.inr (.inl ((((-1):Int),()),())))
else
 some (.inl ((y.1.1,(IntKind.i64.wrap ((IntKind.i64.wrap ((IntKind.i64.wrap (y.1.2.1+(1:Int)))+(1:Int)))+(1:Int))),(IntKind.i64.wrap (y.1.2.2.1+(1:Int))),()),()))
else
 some (.inr (.inr ((y.1.2.1,()),())))
noncomputable def I7:wG.J->Option (aF Iu):=bu wX
theorem ajI:aX Z (ap (codeOf Tryz.f112) 1 26) (bb wG Iu I7):=bW Zc (by kernel_rfl) aj fun y=>by kernel_rfl
abbrev i112:Shape:=⟨[aM 0 .need,ad 1],[],42⟩
abbrev W_:Shape:=⟨[ad 4],[],42⟩
noncomputable def f112(a:i112.J):Option W_.J:=
(I7 ((a.1.1,a.1.2.1,(0:Int),()),())).bind fun b=>
(match b with
|.inl c=>
 some ((c.1.1,()),())
|.inr d=>
 some ((d.1.1,()),()))
noncomputable def YS:aK:=a6 ak Tryz.f112 i112 W_ [] f112
theorem aou:aL Z 112 YS:=ba Zc Tryz.func112 (by kernel_rfl) (bd ajI aj) (fun y=>by kernel_rfl) fun a=>by kernel_rfl
noncomputable abbrev anu:bl:=[(54,sO)]
theorem Vo:bc Z (bi ak anu):=bj ⟨u4,⟨⟩⟩
abbrev wl:Shape:=⟨[a' 0 3000000,ad 1,ad 5],[bg 3000000 .entry 0 0],43⟩
abbrev GX:List aR:=[(.exit 0,⟨[a' 0 3000000,ad 1],[bg 3000000 .entry 0 0],43⟩)]
noncomputable def wA(y:wl.J):bR wl GX:=
 bif(decide (y.1.2.2.1<(y.2.1.length:Int))) then
(f54 ((y.1.2.1,()),())).bind fun a=>
(aU y.2.1.length y.1.2.2.1).bind fun b=>
((y.2.1[b]?).bind fun q=>some (aG.mk a.1.1 q.kind q.mode q.text)).bind fun c=>
(aU (y.2.1.set b c).length y.1.2.2.1).bind fun d=>
(((y.2.1.set b c)[d]?).bind fun q=>some (aG.mk q.path (IntKind.i64.wrap (y.1.2.1+(1:Int))) q.mode q.text)).bind fun e=>
(aU ((y.2.1.set b c).set d e).length y.1.2.2.1).bind fun f=>
((((y.2.1.set b c).set d e)[f]?).bind fun q=>some (aG.mk q.path q.kind (IntKind.i64.wrap ((IntKind.i64.wrap (y.1.2.1+(1:Int)))+(1:Int))) q.text)).bind fun g=>
(f54 (((IntKind.i64.wrap ((IntKind.i64.wrap ((IntKind.i64.wrap (y.1.2.1+(1:Int)))+(1:Int)))+(1:Int))),()),())).bind fun h=>
(aU (((y.2.1.set b c).set d e).set f g).length y.1.2.2.1).bind fun i=>
(((((y.2.1.set b c).set d e).set f g)[i]?).bind fun q=>some (aG.mk q.path q.kind q.mode h.1.1)).bind fun j=>
 some (.inl (((),(IntKind.i64.wrap ((IntKind.i64.wrap ((IntKind.i64.wrap ((IntKind.i64.wrap (y.1.2.1+(1:Int)))+(1:Int)))+(1:Int)))+(1:Int))),(IntKind.i64.wrap (y.1.2.2.1+(1:Int))),()),((((y.2.1.set b c).set d e).set f g).set i j),()))
else
 some (.inr (((),y.1.2.1,()),y.2.1,()))
noncomputable def Hm:wl.J->Option (aF GX):=bu wA
theorem ahA:aX Z (ap (codeOf Tryz.f18) 1 26) (bb wl GX Hm):=bW Vo (by kernel_rfl) aj fun y=>by kernel_rfl
abbrev U1:Shape:=⟨[a' 0 600000,ad 1],[(600000,.row .entry,.same)],43⟩
abbrev UP:Shape:=⟨[a' 0 3000000,ad 4],[bg 3000000 .entry 0 0],43⟩
noncomputable def Dh(a:U1.J):Option UP.J:=
(Hm (((),a.1.2.1,(0:Int),()),a.2.1,())).bind fun b=>
 some (((),b.1.2.1,()),b.2.1,())
noncomputable def Vk:aK:=uI ak Tryz.f18 U1 UP [] [0] Dh
theorem amp:aL Z 18 Vk:=vX Vo Tryz.func18 (by kernel_rfl) (bd ahA aj) (fun y=>by kernel_rfl) fun a=>by kernel_rfl
noncomputable abbrev ans:bl:=[(54,sO)]
theorem Vm:bc Z (bi ak ans):=bj ⟨u4,⟨⟩⟩
abbrev wj:Shape:=⟨[a' 0 3000000,ad 1,ad 5],[bg 3000000 .need 0 0],36⟩
abbrev GJ:List aR:=[(.exit 0,⟨[a' 0 3000000,ad 1],[bg 3000000 .need 0 0],36⟩)]
noncomputable def ww(y:wj.J):bR wj GJ:=
 bif(decide (y.1.2.2.1<(y.2.1.length:Int))) then
(f54 ((y.1.2.1,()),())).bind fun a=>
(aU y.2.1.length y.1.2.2.1).bind fun b=>
((y.2.1[b]?).bind fun q=>some (bG.mk a.1.1 q.kind q.aW)).bind fun c=>
(aU (y.2.1.set b c).length y.1.2.2.1).bind fun d=>
(((y.2.1.set b c)[d]?).bind fun q=>some (bG.mk q.name (IntKind.i64.wrap (y.1.2.1+(1:Int))) q.aW)).bind fun e=>
(f54 (((IntKind.i64.wrap ((IntKind.i64.wrap (y.1.2.1+(1:Int)))+(1:Int))),()),())).bind fun f=>
(aU ((y.2.1.set b c).set d e).length y.1.2.2.1).bind fun g=>
((((y.2.1.set b c).set d e)[g]?).bind fun q=>some (bG.mk q.name q.kind f.1.1)).bind fun h=>
 some (.inl (((),(IntKind.i64.wrap ((IntKind.i64.wrap ((IntKind.i64.wrap (y.1.2.1+(1:Int)))+(1:Int)))+(1:Int))),(IntKind.i64.wrap (y.1.2.2.1+(1:Int))),()),(((y.2.1.set b c).set d e).set g h),()))
else
 some (.inr (((),y.1.2.1,()),y.2.1,()))
noncomputable def G':wj.J->Option (aF GJ):=bu ww
theorem ahh:aX Z (ap (codeOf Tryz.f60) 1 26) (bb wj GJ G'):=bW Vm (by kernel_rfl) aj fun y=>by kernel_rfl
abbrev UZ:Shape:=⟨[a' 0 600000,ad 1],[(600000,.row .need,.same)],36⟩
abbrev UN:Shape:=⟨[a' 0 3000000,ad 4],[bg 3000000 .need 0 0],36⟩
noncomputable def Df(a:UZ.J):Option UN.J:=
(G' (((),a.1.2.1,(0:Int),()),a.2.1,())).bind fun b=>
 some (((),b.1.2.1,()),b.2.1,())
noncomputable def Vi:aK:=uI ak Tryz.f60 UZ UN [] [0] Df
theorem amn:aL Z 60 Vi:=vX Vm Tryz.func60 (by kernel_rfl) (bd ahh aj) (fun y=>by kernel_rfl) fun a=>by kernel_rfl
noncomputable abbrev ant:bl:=[(18,Vk),(54,sO),(60,Vi)]
theorem Vn:bc Z (bi ak ant):=bj ⟨amp,u4,amn,⟨⟩⟩
abbrev wk:Shape:=⟨[a' 0 3000000,ad 1,ad 5],[(3000000,.deep .pack,.slot 0 0)],43⟩
abbrev GM:List aR:=[(.exit 0,⟨[a' 0 3000000,ad 1],[(3000000,.deep .pack,.slot 0 0)],43⟩)]
noncomputable def wy(y:wk.J):bR wk GM:=
 bif(decide (y.1.2.2.1<(y.2.1.length:Int))) then
(f54 ((y.1.2.1,()),())).bind fun a=>
(aU y.2.1.length y.1.2.2.1).bind fun b=>
((y.2.1[b]?).bind fun q=>some (aT.mk a.1.1 q.aW q.bh q.bK)).bind fun c=>
(f54 (((IntKind.i64.wrap (y.1.2.1+(1:Int))),()),())).bind fun d=>
(aU (y.2.1.set b c).length y.1.2.2.1).bind fun e=>
(((y.2.1.set b c)[e]?).bind fun q=>some (aT.mk q.name d.1.1 q.bh q.bK)).bind fun f=>
(aU ((y.2.1.set b c).set e f).length y.1.2.2.1).bind fun g=>
(((y.2.1.set b c).set e f)[g]?).bind fun h=>
(Df (((),(IntKind.i64.wrap ((IntKind.i64.wrap (y.1.2.1+(1:Int)))+(1:Int))),()),h.bh,())).bind fun i=>
(aU (((y.2.1.set b c).set e f).set g (aT.mk h.name h.aW i.2.1 h.bK)).length y.1.2.2.1).bind fun j=>
((((y.2.1.set b c).set e f).set g (aT.mk h.name h.aW i.2.1 h.bK))[j]?).bind fun k=>
(Dh (((),i.1.2.1,()),k.bK,())).bind fun l=>
 some (.inl (((),l.1.2.1,(IntKind.i64.wrap (y.1.2.2.1+(1:Int))),()),((((y.2.1.set b c).set e f).set g (aT.mk h.name h.aW i.2.1 h.bK)).set j (aT.mk k.name k.aW k.bh l.2.1)),()))
else
 some (.inr (((),y.1.2.1,()),y.2.1,()))
noncomputable def Hc:wk.J->Option (aF GM):=bu wy
theorem ahm:aX Z (ap (codeOf Tryz.f26) 1 26) (bb wk GM Hc):=bW Vn (by kernel_rfl) aj fun y=>by kernel_rfl
abbrev U0:Shape:=⟨[a' 0 600000,ad 1],[(600000,.deep .pack,.same)],43⟩
abbrev UO:Shape:=⟨[a' 0 3000000,ad 4],[(3000000,.deep .pack,.slot 0 0)],43⟩
noncomputable def Dg(a:U0.J):Option UO.J:=
(Hc (((),a.1.2.1,(0:Int),()),a.2.1,())).bind fun b=>
 some (((),b.1.2.1,()),b.2.1,())
noncomputable def Vj:aK:=uI ak Tryz.f26 U0 UO [] [0] Dg
theorem amo:aL Z 26 Vj:=vX Vn Tryz.func26 (by kernel_rfl) (bd ahm aj) (fun y=>by kernel_rfl) fun a=>by kernel_rfl
noncomputable abbrev anv:bl:=[(26,Vj)]
theorem anw:bc Z (bi ak anv):=bj ⟨amo,⟨⟩⟩
abbrev U2:Shape:=⟨[dw 0 [.own 600000],ad 1],[(600000,.deep .pack,.same)],10⟩
abbrev UQ:Shape:=⟨[dw 0 [.own 3000000],ad 4],[(3000000,.deep .pack,.slot 0 0)],10⟩
noncomputable def Di(a:U2.J):Option UQ.J:=
(Dg (((),a.1.2.1,()),a.2.1,())).bind fun b=>
 some ((((),()),b.1.2.1,()),b.2.1,())
noncomputable def Vl:aK:=uI ak Tryz.f17 U2 UQ [] [0] Di
theorem amq:aL Z 17 Vl:=vX anw Tryz.func17 (by kernel_rfl) aj (fun y=>by kernel_rfl) fun a=>by kernel_rfl
noncomputable abbrev avw:bl:=[(54,sO)]
theorem aam:bc Z (bi ak avw):=bj ⟨u4,⟨⟩⟩
abbrev w8:Shape:=⟨[aM 0 .entry,ad 1,ad 5],[],51⟩
abbrev JC:List aR:=[(.ret,⟨[ad 4],[],51⟩),(.exit 0,⟨[ad 1],[],51⟩)]
noncomputable def xh(y:w8.J):bR w8 JC:=
 bif(decide (y.1.2.2.1<(y.1.1.length:Int))) then
(aQ y.1.1 y.1.2.2.1).bind fun a=>
(f54 ((y.1.2.1,()),())).bind fun b=>
 bif(!(a.path==b.1.1)) then
 some (.inr (.inl ((((-1):Int),()),())))
else
(aQ y.1.1 y.1.2.2.1).bind fun c=>
 bif(c.kind !=(IntKind.i64.wrap (y.1.2.1+(1:Int)))) then
 some (.inr (.inl ((((-1):Int),()),())))
else
(aQ y.1.1 y.1.2.2.1).bind fun d=>
 bif(d.mode !=(IntKind.i64.wrap ((IntKind.i64.wrap (y.1.2.1+(1:Int)))+(1:Int)))) then
 some (.inr (.inl ((((-1):Int),()),())))
else
(aQ y.1.1 y.1.2.2.1).bind fun e=>
(f54 (((IntKind.i64.wrap ((IntKind.i64.wrap ((IntKind.i64.wrap (y.1.2.1+(1:Int)))+(1:Int)))+(1:Int))),()),())).bind fun f=>
 bif(!(e.text==f.1.1)) then
 some (.inr (.inl ((((-1):Int),()),())))
else
 some (.inl ((y.1.1,(IntKind.i64.wrap ((IntKind.i64.wrap ((IntKind.i64.wrap ((IntKind.i64.wrap (y.1.2.1+(1:Int)))+(1:Int)))+(1:Int)))+(1:Int))),(IntKind.i64.wrap (y.1.2.2.1+(1:Int))),()),()))
else
 some (.inr (.inr ((y.1.2.1,()),())))
noncomputable def JZ:w8.J->Option (aF JC):=bu xh
theorem alk:aX Z (ap (codeOf Tryz.f19) 1 26) (bb w8 JC JZ):=bW aam (by kernel_rfl) aj fun y=>by kernel_rfl
abbrev i19:Shape:=⟨[aM 0 .entry,ad 1],[],51⟩
abbrev ZS:Shape:=⟨[ad 4],[],51⟩
noncomputable def f19(a:i19.J):Option ZS.J:=
(JZ ((a.1.1,a.1.2.1,(0:Int),()),())).bind fun b=>
(match b with
|.inl c=>
 some ((c.1.1,()),())
|.inr d=>
 some ((d.1.1,()),()))
noncomputable def _5:aK:=a6 ak Tryz.f19 i19 ZS [] f19
theorem asd:aL Z 19 _5:=ba aam Tryz.func19 (by kernel_rfl) (bd alk aj) (fun y=>by kernel_rfl) fun a=>by kernel_rfl
noncomputable abbrev avk:bl:=[(19,_5),(54,sO),(112,YS)]
theorem aah:bc Z (bi ak avk):=bj ⟨asd,u4,aou,⟨⟩⟩
abbrev Cm:Shape:=⟨[aM 0 .pack,ad 1,ad 5],[],51⟩
abbrev Jy:List aR:=[(.ret,⟨[ad 4],[],51⟩),(.exit 0,⟨[ad 1],[],51⟩)]
noncomputable def CJ(y:Cm.J):bR Cm Jy:=
 bif(decide (y.1.2.2.1<(y.1.1.length:Int))) then
(aQ y.1.1 y.1.2.2.1).bind fun a=>
(f54 ((y.1.2.1,()),())).bind fun b=>
 bif(!(a.name==b.1.1)) then
 some (.inr (.inl ((((-1):Int),()),())))
else
(aQ y.1.1 y.1.2.2.1).bind fun c=>
(f54 (((IntKind.i64.wrap (y.1.2.1+(1:Int))),()),())).bind fun d=>
 bif(!(c.aW==d.1.1)) then
 some (.inr (.inl ((((-1):Int),()),())))
else
(aQ y.1.1 y.1.2.2.1).bind fun e=>
(f112 ((e.bh,(IntKind.i64.wrap ((IntKind.i64.wrap (y.1.2.1+(1:Int)))+(1:Int))),()),())).bind fun f=>
 bif(decide (f.1.1<(0:Int))) then
 some (.inr (.inl ((((-1):Int),()),())))
else
(aQ y.1.1 y.1.2.2.1).bind fun g=>
(f19 ((g.bK,f.1.1,()),())).bind fun h=>
 bif(decide (h.1.1<(0:Int))) then
 some (.inr (.inl ((((-1):Int),()),())))
else
 some (.inl ((y.1.1,h.1.1,(IntKind.i64.wrap (y.1.2.2.1+(1:Int))),()),()))
else
 some (.inr (.inr ((y.1.2.1,()),())))
noncomputable def JU:Cm.J->Option (aF Jy):=bu CJ
theorem ald:aX Z (ap (codeOf Tryz.f68) 1 26) (bb Cm Jy JU):=bW aah (by kernel_rfl) aj fun y=>by kernel_rfl
abbrev i68:Shape:=⟨[aM 0 .pack,ad 1],[],51⟩
abbrev ZG:Shape:=⟨[ad 4],[],51⟩
noncomputable def f68(a:i68.J):Option ZG.J:=
(JU ((a.1.1,a.1.2.1,(0:Int),()),())).bind fun b=>
(match b with
|.inl c=>
 some ((c.1.1,()),())
|.inr d=>
 some ((d.1.1,()),()))
noncomputable def _S:aK:=a6 ak Tryz.f68 i68 ZG [] f68
theorem ar6:aL Z 68 _S:=ba aah Tryz.func68 (by kernel_rfl) (bd ald aj) (fun y=>by kernel_rfl) fun a=>by kernel_rfl
noncomputable abbrev avt:bl:=[(68,_S)]
theorem avI:bc Z (bi ak avt):=bj ⟨ar6,⟨⟩⟩
abbrev i31:Shape:=⟨[dw 0 [dA .pack],ad 1],[],12⟩
abbrev ZP:Shape:=⟨[ad 4],[],12⟩
noncomputable def f31(a:i31.J):Option ZP.J:=
(f68 ((a.1.1.1,a.1.2.1,()),())).bind fun b=>
 bif(decide (b.1.1<(0:Int))) then
 some ((((-1):Int),()),())
else
 some ((b.1.1,()),())
noncomputable def _2:aK:=a6 ak Tryz.f31 i31 ZP [] f31
theorem z31:aL Z 31 _2:=ba avI Tryz.func31 (by kernel_rfl) aj (fun y=>by kernel_rfl) fun a=>by kernel_rfl
abbrev dX(k:Int):Prop:=k<=2305843009213693952
theorem abA(m:Int)(s:F)(hm:0<=m)(hl:m+(s.length:Int)<=2305843009213693952):i_ (J8 ((m,(s,())),())) (fun q=>match q with
  |.inl y=>∃(sV:Int) (au:F),y=((sV,(au,())),())/\sV.toNat<m.toNat/\0<=sV/\sV+(au.length:Int)<=2305843009213693952
  |.inr b=>b.1.1.length<=2305843009213693952):=by
 simp only[J8];by_cases hp:m>0
 ·have al:nc .i64 m 10=some (m/10):=TB rfl hm (by omega) (by decide)
  have hr:lr m 10=some (m%10):=Ct hm (by decide)
  simp only[hp,decide_true,cond_true,hr,al,Option.bind_some];have hc:=eh (s:=strOf ([(IntKind.u8.wrap (IntKind.i64.wrap ((48:Int)+m%10)))]:List Int)) (t:=s) (by simp[strOf];omega)
  simp only[hc,Option.bind_some];refine⟨_,rfl,m/10,_,rfl,by omega,by omega,?_⟩
  simp[strOf];omega
 ·simp only[hp,decide_false,cond_false];refine⟨_,rfl,?_⟩;show s.length<=2305843009213693952;omega
theorem adj(k:Int)(h0:1<=k)(h1:dX k):i_ (f54 ((k,()),())) (fun _=>True):=by
 have hb:i_ (JV ((k,(([]:F),())),())) (fun r=>r.1.1.length<=2305843009213693952):=by
  refine i_.loop (fun n y=>∃(m:Int) (s:F),y=((m,(s,())),())/\n=m.toNat/\0<=m/\m+(s.length:Int)<=2305843009213693952) (fun n y hy=>?_) k.toNat _ ⟨k,[],rfl,rfl,by omega,by simpa using h1⟩
  obtain⟨m,s,rfl,rfl,hm,hl⟩:=hy;refine(abA m s hm hl).mono fun q al=>?_
  cases q with
  |inl y=>
   obtain⟨sV,au,rfl,aw,an,bo⟩:=al;exact⟨sV.toNat,aw,sV,au,rfl,rfl,an,bo⟩
  |inr b=>exact al
 simp only[f54];have Y:decide (k<=0)=false:=decide_eq_false (by omega)
 simp only[Y,cond_false];refine hb.bind fun r hr=>?_
 have hr:r.1.1.length<=2305843009213693952:=hr;rw[eh (show([109]:F).length+r.1.1.length<=_ by simp;omega),Option.bind_some]
 exact .ret trivial
noncomputable def mt(k:Int):F:=match f54 ((k,()),()) with
 |some r=>r.1.1
 |none=>[]
theorem mm{k:Int}(h0:1<=k)(h1:dX k):f54 ((k,()),())=some ((mt k,()),()):=by
 obtain⟨⟨⟨s,u⟩,b9⟩,e,_⟩:=adj k h0 h1;unfold mt;rw[e]
theorem Kh{aB:Type}{l xs:List aB}{i:Nat}{c:aB}(hl:l.length=i)(hi:i<xs.length):(l++xs.drop i).set i c=(l++[c])++xs.drop (i+1):=by
 subst hl;rw[List.set_append_right _ _ (Nat.le_refl _),Nat.sub_self,List.drop_eq_getElem_cons hi,List.set_cons_zero];simp
theorem Kp{aB:Type}{l xs:List aB}{i:Nat}(hl:l.length=i):(l++xs.drop i)[i]? =xs[i]? :=by
 subst hl;rw[List.getElem?_append_right (Nat.le_refl _),Nat.sub_self];simp
theorem Ht{aB:Type}{l:List aB}{i:Nat}{c:aB}(h:i<l.length):(l.set i c)[i]? =some c:=by simp[h]
noncomputable def yk(k:Int):bG:=⟨mt k,k+1,mt (k+2)⟩
noncomputable def f_(k:Int)(n:Nat):List bG:=(List.range n).map fun(i:Nat)=>yk (k+3*(i:Int))
theorem tv(k:Int)(n:Nat):(f_ k n).length=n:=by simp[f_]
theorem af0(k:Int)(n:Nat):f_ k (n+1)=f_ k n++[yk (k+3*(n:Int))]:=by simp[f_,List.range_succ]
theorem ahT{k:Int}{n i:Nat}(h:i<n):(f_ k n)[i]? =some (yk (k+3*(i:Int))):=by simp[f_,h]
noncomputable def yl(k:Int):aG:=⟨mt k,k+1,k+2,mt (k+3)⟩
noncomputable def f'(k:Int)(n:Nat):List aG:=(List.range n).map fun(i:Nat)=>yl (k+4*(i:Int))
theorem tw(k:Int)(n:Nat):(f' k n).length=n:=by simp[f']
theorem af1(k:Int)(n:Nat):f' k (n+1)=f' k n++[yl (k+4*(n:Int))]:=by simp[f',List.range_succ]
theorem ahU{k:Int}{n i:Nat}(h:i<n):(f' k n)[i]? =some (yl (k+4*(i:Int))):=by simp[f',h]
theorem t'{J bx:Type}{g:J->Option (Sum J bx)}(st:Nat->J)(n:Nat){b:bx}(h:∀i,i<n->g (st i)=some (.inl (st (i+1))))(he:g (st n)=some (.inr b)):bu g (st 0)=some b:=by
 suffices key:∀k i,i+k=n->bu g (st i)=some b from key n 0 (by omega)
 intro k;induction k with
 |zero=>
  intro i hi;obtain rfl:i=n:=by omega
  exact cx he
 |succ k ih=>
  intro i hi;rw[dL (h i (by omega))]
  exact ih (i+1) (by omega)
theorem acB(xs:List bG)(k:Int)(h0:1<=k)(hs:cN xs.length)(h1:dX (k+3*(xs.length:Int))):Df (((),(k,())),(xs,()))=some (((),(k+3*(xs.length:Int),())),(f_ k xs.length,())):=by
 have key:G' (((),(k,((0:Int),()))),(xs,()))=some (((),(k+3*(xs.length:Int),())),(f_ k xs.length,())):=by
  have:=t' (g:=ww) (fun i=>(((),(k+3*(i:Int),((i:Int),()))),(f_ k i++xs.drop i,()))) xs.length (b:=(((),(k+3*(xs.length:Int),())),(f_ k xs.length,()))) (fun i hi=>?_) ?_
  ·have e:(((),(k+3*((0:Nat):Int),(((0:Nat):Int),()))),(f_ k 0++xs.drop 0,()))=((((),(k,((0:Int),()))),(xs,())):wj.J):=by
    show(((),(k+3*((0:Nat):Int),(((0:Nat):Int),()))),(f_ k 0++xs.drop 0,()))=(((),(k,((0:Int),()))),(xs,()));simp[f_]
   exact(congrArg (bu ww) e.symm).trans this
  ·have hl:(f_ k i++xs.drop i).length=xs.length:=by simp[tv];omega
   have hg:(f_ k i++xs.drop i)[i]? =some xs[i]:=by rw[Kp (tv k i)];exact List.getElem?_eq_getElem hi
   have a1:IntKind.i64.wrap (k+3*(i:Int)+1)=k+3*(i:Int)+1:=c' (by omega) (by unfold dX at h1;omega)
   have a2:IntKind.i64.wrap (k+3*(i:Int)+1+1)=k+3*(i:Int)+2:=(c' (by omega) (by unfold dX at h1;omega)).trans (by omega)
   have a3:IntKind.i64.wrap (k+3*(i:Int)+2+1)=k+3*((i+1:Nat):Int):=(c' (by omega) (by unfold dX at h1;omega)).trans (by omega)
   have t1:=mm (k:=k+3*(i:Int)) (by omega) (by unfold dX at h1 ⊢;omega)
   have t2:=mm (k:=k+3*(i:Int)+2) (by omega) (by unfold dX at h1 ⊢;omega)
   have hw:am i:=by unfold am;omega
   have hs:=Kh (c:=yk (k+3*(i:Int))) (tv k i) hi;rw[<-af0] at hs;simp only[ww,hl,cn hi,cond_true,t1,Option.bind_some,gg hi,hg,List.length_set,Ht (show i<(f_ k i++xs.drop i).length by omega),List.set_set,a1,a2,a3,t2,b6 hw]
   refine congrArg some (congrArg Sum.inl ?_);rw[<-hs];rfl
  ·have hl:(f_ k xs.length++xs.drop xs.length)=f_ k xs.length:=by simp
   simp only[ww,hl,tv,dr,cond_false]
 simp only[Df,key,Option.bind_some]
theorem abT(xs:List aG)(k:Int)(h0:1<=k)(hs:cN xs.length)(h1:dX (k+4*(xs.length:Int))):Dh (((),(k,())),(xs,()))=some (((),(k+4*(xs.length:Int),())),(f' k xs.length,())):=by
 have key:Hm (((),(k,((0:Int),()))),(xs,()))=some (((),(k+4*(xs.length:Int),())),(f' k xs.length,())):=by
  have:=t' (g:=wA) (fun i=>(((),(k+4*(i:Int),((i:Int),()))),(f' k i++xs.drop i,()))) xs.length (b:=(((),(k+4*(xs.length:Int),())),(f' k xs.length,()))) (fun i hi=>?_) ?_
  ·have e:(((),(k+4*((0:Nat):Int),(((0:Nat):Int),()))),(f' k 0++xs.drop 0,()))=((((),(k,((0:Int),()))),(xs,())):wl.J):=by
    show(((),(k+4*((0:Nat):Int),(((0:Nat):Int),()))),(f' k 0++xs.drop 0,()))=(((),(k,((0:Int),()))),(xs,()));simp[f']
   exact(congrArg (bu wA) e.symm).trans this
  ·have hl:(f' k i++xs.drop i).length=xs.length:=by simp[tw];omega
   have hg:(f' k i++xs.drop i)[i]? =some xs[i]:=by rw[Kp (tw k i)];exact List.getElem?_eq_getElem hi
   have a1:IntKind.i64.wrap (k+4*(i:Int)+1)=k+4*(i:Int)+1:=c' (by omega) (by unfold dX at h1;omega)
   have a2:IntKind.i64.wrap (k+4*(i:Int)+1+1)=k+4*(i:Int)+2:=(c' (by omega) (by unfold dX at h1;omega)).trans (by omega)
   have a3:IntKind.i64.wrap (k+4*(i:Int)+2+1)=k+4*(i:Int)+3:=(c' (by omega) (by unfold dX at h1;omega)).trans (by omega)
   have a4:IntKind.i64.wrap (k+4*(i:Int)+3+1)=k+4*((i+1:Nat):Int):=(c' (by omega) (by unfold dX at h1;omega)).trans (by omega)
   have t1:=mm (k:=k+4*(i:Int)) (by omega) (by unfold dX at h1 ⊢;omega)
   have t2:=mm (k:=k+4*(i:Int)+3) (by omega) (by unfold dX at h1 ⊢;omega)
   have hw:am i:=by unfold am;omega
   have hs:=Kh (c:=yl (k+4*(i:Int))) (tw k i) hi;rw[<-af1] at hs;simp only[wA,hl,cn hi,cond_true,t1,Option.bind_some,gg hi,hg,List.length_set,Ht (show i<(f' k i++xs.drop i).length by omega),List.set_set,a1,a2,a3,a4,t2,b6 hw]
   refine congrArg some (congrArg Sum.inl ?_);rw[<-hs];rfl
  ·have hl:(f' k xs.length++xs.drop xs.length)=f' k xs.length:=by simp
   simp only[wA,hl,tw,dr,cond_false]
 simp only[Dh,key,Option.bind_some]
theorem Dp(a:Int):(a !=a)=false:=by simp
theorem acI(n:Nat)(k:Int)(h0:1<=k)(hs:cN n)(h1:dX (k+3*(n:Int))):f112 ((f_ k n,(k,())),())=some ((k+3*(n:Int),()),()):=by
 have key:I7 ((f_ k n,(k,((0:Int),()))),())=some (.inr ((k+3*(n:Int),()),())):=by
  have:=t' (g:=wX) (fun i=>((f_ k n,(k+3*(i:Int),((i:Int),()))),())) n (b:=.inr ((k+3*(n:Int),()),())) (fun i hi=>?_) ?_
  ·have e:((f_ k n,(k+3*((0:Nat):Int),(((0:Nat):Int),()))),())=(((f_ k n,(k,((0:Int),()))),()):wG.J):=by
    show((f_ k n,(k+3*((0:Nat):Int),(((0:Nat):Int),()))),())=((f_ k n,(k,((0:Int),()))),());simp
   exact(congrArg (bu wX) e.symm).trans this
  ·have a1:IntKind.i64.wrap (k+3*(i:Int)+1)=k+3*(i:Int)+1:=c' (by omega) (by unfold dX at h1;omega)
   have a2:IntKind.i64.wrap (k+3*(i:Int)+1+1)=k+3*(i:Int)+2:=(c' (by omega) (by unfold dX at h1;omega)).trans (by omega)
   have a3:IntKind.i64.wrap (k+3*(i:Int)+2+1)=k+3*((i+1:Nat):Int):=(c' (by omega) (by unfold dX at h1;omega)).trans (by omega)
   have t1:=mm (k:=k+3*(i:Int)) (by omega) (by unfold dX at h1 ⊢;omega)
   have t2:=mm (k:=k+3*(i:Int)+2) (by omega) (by unfold dX at h1 ⊢;omega)
   have hw:am i:=by unfold am;omega
   simp only[wX,tv,cn hi,cond_true,cc,ahT hi,yk,t1,t2,Option.bind_some,beq_self_eq_true,Bool.not_true,cond_false,a1,a2,a3,Dp,b6 hw]
  ·simp only[wX,tv,dr,cond_false]
 simp only[f112,key,Option.bind_some]
theorem abX(n:Nat)(k:Int)(h0:1<=k)(hs:cN n)(h1:dX (k+4*(n:Int))):f19 ((f' k n,(k,())),())=some ((k+4*(n:Int),()),()):=by
 have key:JZ ((f' k n,(k,((0:Int),()))),())=some (.inr ((k+4*(n:Int),()),())):=by
  have:=t' (g:=xh) (fun i=>((f' k n,(k+4*(i:Int),((i:Int),()))),())) n (b:=.inr ((k+4*(n:Int),()),())) (fun i hi=>?_) ?_
  ·have e:((f' k n,(k+4*((0:Nat):Int),(((0:Nat):Int),()))),())=(((f' k n,(k,((0:Int),()))),()):w8.J):=by
    show((f' k n,(k+4*((0:Nat):Int),(((0:Nat):Int),()))),())=((f' k n,(k,((0:Int),()))),());simp
   exact(congrArg (bu xh) e.symm).trans this
  ·have a1:IntKind.i64.wrap (k+4*(i:Int)+1)=k+4*(i:Int)+1:=c' (by omega) (by unfold dX at h1;omega)
   have a2:IntKind.i64.wrap (k+4*(i:Int)+1+1)=k+4*(i:Int)+2:=(c' (by omega) (by unfold dX at h1;omega)).trans (by omega)
   have a3:IntKind.i64.wrap (k+4*(i:Int)+2+1)=k+4*(i:Int)+3:=(c' (by omega) (by unfold dX at h1;omega)).trans (by omega)
   have a4:IntKind.i64.wrap (k+4*(i:Int)+3+1)=k+4*((i+1:Nat):Int):=(c' (by omega) (by unfold dX at h1;omega)).trans (by omega)
   have t1:=mm (k:=k+4*(i:Int)) (by omega) (by unfold dX at h1 ⊢;omega)
   have t2:=mm (k:=k+4*(i:Int)+3) (by omega) (by unfold dX at h1 ⊢;omega)
   have hw:am i:=by unfold am;omega
   simp only[xh,tw,cn hi,cond_true,cc,ahU hi,yl,t1,t2,Option.bind_some,beq_self_eq_true,Bool.not_true,cond_false,a1,a2,a3,a4,Dp,b6 hw]
  ·simp only[xh,tw,dr,cond_false]
 simp only[f19,key,Option.bind_some]
def kA(p:aT):Int:=2+3*(p.bh.length:Int)+4*(p.bK.length:Int)
noncomputable def sq(k:Int)(p:aT):aT:=⟨mt k,mt (k+1),f_ (k+2) p.bh.length,f' (k+2+3*(p.bh.length:Int)) p.bK.length⟩
noncomputable def fP:Int->List aT->List aT
 |_,[]=>[]
 |k,p::r=>sq k p::fP (k+kA p) r
def eA:Int->List aT->Int
 |k,[]=>k
 |k,p::r=>eA (k+kA p) r
theorem amv(p:aT):2<=kA p:=by unfold kA;omega
theorem wY:∀(ps:List aT) (k:Int),k<=eA k ps:=by
 intro ps;induction ps with
 |nil=>intro k;exact Int.le_refl _
 |cons p r ih=>intro k;have h1:=ih (k+kA p);have h2:=amv p;show k<=eA (k+kA p) r;omega
theorem HL:∀(ps bS:List aT) (k:Int),eA k (ps++bS)=eA (eA k ps) bS:=by
 intro ps;induction ps with
 |nil=>intro bS k;rfl
 |cons p r ih=>intro bS k;exact ih bS _
theorem ahS:∀(ps bS:List aT) (k:Int),fP k (ps++bS)=fP k ps++fP (eA k ps) bS:=by
 intro ps;induction ps with
 |nil=>intro bS k;rfl
 |cons p r ih=>intro bS k;exact congrArg (sq k p:: ·) (ih bS _)
theorem AJ:∀(ps:List aT) (k:Int),(fP k ps).length=ps.length:=by
 intro ps;induction ps with
 |nil=>intro k;rfl
 |cons p r ih=>intro k;simp[fP,ih]
theorem ahR:∀{ps:List aT} {k:Int} {i:Nat} {p:aT},ps[i]? =some p->(fP k ps)[i]? =some (sq (eA k (ps.take i)) p):=by
 intro ps;induction ps with
 |nil=>intro k i p h;simp at h
 |cons q r ih=>
  intro k i p h;cases i with
  |zero=>
   simp only[List.getElem?_cons_zero,Option.some.injEq] at h;subst h;rfl
  |succ i=>
   simp only[List.getElem?_cons_succ] at h;show(sq k q::fP (k+kA q) r)[i+1]? =_;rw[List.getElem?_cons_succ,ih h];rfl
theorem akd:∀{ps:List aT} {k:Int},(∀p,p∈ps->cN p.bh.length/\cN p.bK.length)->eA k ps<=k+16777216*(ps.length:Int):=by
 intro ps;induction ps with
 |nil=>intro k _;show k<=_;simp
 |cons p r ih=>
  intro k h;obtain⟨h1,h2⟩:=h p List.mem_cons_self;have h3:=ih (k:=k+kA p) fun q al=>h q (List.mem_cons_of_mem _ al)
  show eA (k+kA p) r<=_;have h1:p.bh.length<=2097152:=h1;have h2:p.bK.length<=2097152:=h2;unfold kA at*;simp only[List.length_cons];omega
theorem S6{ps:List aT}(hb:ic ps):dX (eA 1 ps):=by
 have h:=akd (ps:=ps) (k:=1) fun p hp=>⟨(hb.2 p hp).2.2.1.1,(hb.2 p hp).2.2.2.1⟩
 have hl:ps.length<=2097152:=hb.1;unfold dX;omega
theorem Js{aB:Type}{xs:List aB}{i:Nat}{x:aB}(h:xs[i]? =some x):xs.take (i+1)=xs.take i++[x]:=by
 rw[List.take_add_one,h];rfl
theorem QJ{ps:List aT}{k:Int}{i:Nat}{p:aT}(h:ps[i]? =some p):eA k (ps.take i)+kA p<=eA k ps:=by
 have e:ps=ps.take i++(p::ps.drop (i+1)):=by
  obtain⟨hi,hx⟩:=List.getElem?_eq_some_iff.1 h;rw[<-hx,List.getElem_cons_drop,List.take_append_drop]
 have:eA k ps=eA (eA k (ps.take i)) (p::ps.drop (i+1)):=by
  rw[<-HL,<-e]
 rw[this];exact wY _ _
theorem acA(xs:List aT)(k:Int)(h0:1<=k)(hs:ic xs)(h1:dX (eA k xs)):Dg (((),(k,())),(xs,()))=some (((),(eA k xs,())),(fP k xs,())):=by
 have key:Hc (((),(k,((0:Int),()))),(xs,()))=some (((),(eA k xs,())),(fP k xs,())):=by
  have:=t' (g:=wy) (fun i=>(((),(eA k (xs.take i),((i:Int),()))),(fP k (xs.take i)++xs.drop i,()))) xs.length (b:=(((),(eA k xs,())),(fP k xs,()))) (fun i hi=>?_) ?_
  ·have e:(((),(eA k (xs.take 0),(((0:Nat):Int),()))),(fP k (xs.take 0)++xs.drop 0,()))=((((),(k,((0:Int),()))),(xs,())):wk.J):=by
    show(((),(eA k (xs.take 0),(((0:Nat):Int),()))),(fP k (xs.take 0)++xs.drop 0,()))=(((),(k,((0:Int),()))),(xs,()));simp[fP,eA]
   exact(congrArg (bu wy) e.symm).trans this
  ·have hlen:xs.length<=2097152:=hs.1;have hx:xs[i]? =some xs[i]:=List.getElem?_eq_getElem hi;obtain⟨_,_,b3,lR⟩:=hs.2 xs[i] (List.getElem_mem hi);have hm:=QJ (k:=k) hx;have hge:=wY (xs.take i) k;obtain⟨e3,hkk⟩:∃e3,eA k (xs.take i)=e3:=⟨_,rfl⟩;have k2:(fP k (xs.take i)).length=i:=by rw[AJ,List.length_take];omega
   have hl:(fP k (xs.take i)++xs.drop i).length=xs.length:=by simp[k2];omega
   have hg:(fP k (xs.take i)++xs.drop i)[i]? =some xs[i]:=by rw[Kp k2];exact hx
   have oi:=Kh (c:=sq e3 xs[i]) k2 hi;have hnx:fP k (xs.take (i+1))=fP k (xs.take i)++[sq e3 xs[i]]:=by rw[Js hx,ahS,hkk];rfl
   have hne:eA k (xs.take (i+1))=e3+kA xs[i]:=by rw[Js hx,HL,hkk];rfl
   rw[<-hnx] at oi;rw[hkk] at hm hge;rw[hkk];unfold dX at h1;have c1:(1:Int)<=e3:=by omega
   unfold kA at hm hne;have a1:IntKind.i64.wrap (e3+1)=e3+1:=c' (by omega) (by omega)
   have a2:IntKind.i64.wrap (e3+1+1)=e3+2:=(c' (by omega) (by omega)).trans (by omega)
   have t1:=mm (k:=e3) c1 (by unfold dX;omega)
   have t2:=mm (k:=e3+1) (by omega) (by unfold dX;omega)
   have hw:am i:=by unfold am;omega
   have q1:=acB xs[i].bh (e3+2) (by omega) b3.1 (by unfold dX;omega)
   have q2:=abT xs[i].bK (e3+2+3*(xs[i].bh.length:Int)) (by omega) lR.1 (by unfold dX;omega)
   simp only[wy,hl,cn hi,cond_true,t1,Option.bind_some,gg hi,hg,List.length_set,Ht (show i<(fP k (xs.take i)++xs.drop i).length by omega),List.set_set,a1,a2,t2,q1,q2,b6 hw]
   refine congrArg some (congrArg Sum.inl ?_);rw[hne,<-oi];have bp:e3+2+3*(xs[i].bh.length:Int)+4*(xs[i].bK.length:Int)=e3+(2+3*(xs[i].bh.length:Int)+4*(xs[i].bK.length:Int)):=by omega
   rw[bp];rfl
  ·have e1:xs.take xs.length=xs:=List.take_length;have hl:(fP k xs++xs.drop xs.length)=fP k xs:=by simp
   simp only[wy,e1,hl,AJ,dr,cond_false]
 simp only[Dg,key,Option.bind_some]
theorem O7(xs:List aT)(hs:ic xs):Di ((((),()),((1:Int),())),(xs,()))=some ((((),()),(eA 1 xs,())),(fP 1 xs,())):=by
 simp only[Di,acA xs 1 (Int.le_refl _) hs (S6 hs),Option.bind_some]
theorem acH(xs:List aT)(k:Int)(h0:1<=k)(hs:ic xs)(h1:dX (eA k xs)):f68 ((fP k xs,(k,())),())=some ((eA k xs,()),()):=by
 have key:JU ((fP k xs,(k,((0:Int),()))),())=some (.inr ((eA k xs,()),())):=by
  have:=t' (g:=CJ) (fun i=>((fP k xs,(eA k (xs.take i),((i:Int),()))),())) xs.length (b:=.inr ((eA k xs,()),())) (fun i hi=>?_) ?_
  ·exact this
  ·have hlen:xs.length<=2097152:=hs.1;have hx:xs[i]? =some xs[i]:=List.getElem?_eq_getElem hi;obtain⟨_,_,b3,lR⟩:=hs.2 xs[i] (List.getElem_mem hi);have hm:=QJ (k:=k) hx;have hge:=wY (xs.take i) k;have _f:=ahR (k:=k) hx;obtain⟨e3,hkk⟩:∃e3,eA k (xs.take i)=e3:=⟨_,rfl⟩;have hne:eA k (xs.take (i+1))=e3+kA xs[i]:=by rw[Js hx,HL,hkk];rfl
   rw[hkk] at hm hge _f;rw[hkk];unfold dX at h1;have c1:(1:Int)<=e3:=by omega
   unfold kA at hm hne;have a1:IntKind.i64.wrap (e3+1)=e3+1:=c' (by omega) (by omega)
   have a2:IntKind.i64.wrap (e3+1+1)=e3+2:=(c' (by omega) (by omega)).trans (by omega)
   have t1:=mm (k:=e3) c1 (by unfold dX;omega)
   have t2:=mm (k:=e3+1) (by omega) (by unfold dX;omega)
   have hw:am i:=by unfold am;omega
   have q1:=acI xs[i].bh.length (e3+2) (by omega) b3.1 (by unfold dX;omega)
   have q2:=abX xs[i].bK.length (e3+2+3*(xs[i].bh.length:Int)) (by omega) lR.1 (by unfold dX;omega)
   have d1:decide (e3+2+3*(xs[i].bh.length:Int)<0)=false:=decide_eq_false (by omega)
   have d2:decide (e3+2+3*(xs[i].bh.length:Int)+4*(xs[i].bK.length:Int)<0)=false:=decide_eq_false (by omega)
   simp only[CJ,AJ,cn hi,cond_true,cc,_f,sq,t1,t2,Option.bind_some,beq_self_eq_true,Bool.not_true,cond_false,a1,a2,q1,q2,d1,d2,b6 hw];refine congrArg some (congrArg Sum.inl ?_);rw[hne];have bp:e3+2+3*(xs[i].bh.length:Int)+4*(xs[i].bK.length:Int)=e3+(2+3*(xs[i].bh.length:Int)+4*(xs[i].bK.length:Int)):=by omega
   rw[bp]
  ·have e1:xs.take xs.length=xs:=List.take_length;simp only[CJ,AJ,dr,cond_false,e1]
 simp only[f68,key,Option.bind_some]
theorem O9(xs:List aT)(hs:ic xs):f31 (((fP 1 xs,()),((1:Int),())),())=some ((eA 1 xs,()),()):=by
 have Y:decide (eA 1 xs<0)=false:=decide_eq_false (by have:=wY xs 1;omega)
 simp only[f31,acH xs 1 (Int.le_refl _) hs (S6 hs),Option.bind_some,Y,cond_false]
abbrev i303:Shape:=⟨[(0,.ag (.d (.int .u32))),ad 1],[],17⟩
abbrev VK:Shape:=⟨[(4,.ag (.d (.int .u32)))],[],17⟩
noncomputable def f303(a:i303.J):Option VK.J:=
(mn .u32 a.1.1 (eS .u64 (IntKind.u64.wrap a.1.2.1) (31:Int))).bind fun b=>
(fM .u32 a.1.1 (IntKind.u64.wrap ((32:Int)-(eS .u64 (IntKind.u64.wrap a.1.2.1) (31:Int))))).bind fun c=>
 some (((iD .u32 b c),()),())
noncomputable def XI:aK:=a6 ak Tryz.f303 i303 VK [] f303
theorem anD:aL Z 303 XI:=ba g0 Tryz.func303 (by kernel_rfl) aj (fun y=>by kernel_rfl) fun a=>by kernel_rfl
noncomputable abbrev aqb:bl:=[(303,XI)]
theorem arl:bc Z (bi ak aqb):=bj ⟨anD,⟨⟩⟩
abbrev i284:Shape:=⟨[(0,.ag (.d (.int .u32))),ad 1],[],9⟩
abbrev VQ:Shape:=⟨[(4,.ag (.d (.int .u32)))],[],9⟩
noncomputable def f284(a:i284.J):Option VQ.J:=
(f303 ((a.1.1,(IntKind.i64.wrap (0-a.1.2.1)),()),())).bind fun b=>
 some ((b.1.1,()),())
noncomputable def XN:aK:=a6 ak Tryz.f284 i284 VQ [] f284
theorem anI:aL Z 284 XN:=ba arl Tryz.func284 (by kernel_rfl) aj (fun y=>by kernel_rfl) fun a=>by kernel_rfl
abbrev i296:Shape:=⟨[(0,.ag (.d (.int .u32))),ad 1],[],13⟩
abbrev VL:Shape:=⟨[(4,.ag (.d (.int .u32)))],[],13⟩
noncomputable def f296(a:i296.J):Option VL.J:=
(fM .u32 a.1.1 a.1.2.1).bind fun b=>
(mn .u32 a.1.1 (IntKind.i64.wrap ((32:Int)-a.1.2.1))).bind fun c=>
 some (((iD .u32 b c),()),())
noncomputable def Lu:aK:=a6 ak Tryz.f296 i296 VL [] f296
theorem Vp:aL Z 296 Lu:=ba g0 Tryz.func296 (by kernel_rfl) aj (fun y=>by kernel_rfl) fun a=>by kernel_rfl
noncomputable abbrev ap9:bl:=[(296,Lu)]
theorem LM:bc Z (bi ak ap9):=bj ⟨Vp,⟨⟩⟩
abbrev A0:Shape:=⟨[aM 0 .u8,a' 3 3000192,ad 4],[bg 3000192 .u32 3 0],100⟩
abbrev HZ:List aR:=[(.exit 0,⟨[a' 3 3000192],[bg 3000192 .u32 3 0],100⟩)]
noncomputable def Ja(y:A0.J):bR A0 HZ:=
 bif(decide (y.1.2.2.1<(16:Int))) then
(aQ y.1.1 (IntKind.i64.wrap ((4:Int)*y.1.2.2.1))).bind fun a=>
(mn .u32 (IntKind.u32.wrap a) (24:Int)).bind fun b=>
(aQ y.1.1 (IntKind.i64.wrap ((IntKind.i64.wrap ((4:Int)*y.1.2.2.1))+(1:Int)))).bind fun c=>
(mn .u32 (IntKind.u32.wrap c) (16:Int)).bind fun d=>
(aQ y.1.1 (IntKind.i64.wrap ((IntKind.i64.wrap ((4:Int)*y.1.2.2.1))+(2:Int)))).bind fun e=>
(mn .u32 (IntKind.u32.wrap e) (8:Int)).bind fun f=>
(aQ y.1.1 (IntKind.i64.wrap ((IntKind.i64.wrap ((4:Int)*y.1.2.2.1))+(3:Int)))).bind fun g=>
(cw 4 y.2.1 ([(iD .u32 (iD .u32 (iD .u32 b d) f) (IntKind.u32.wrap g))]:List Int)).bind fun h=>
 some (.inl ((y.1.1,(),(IntKind.i64.wrap (y.1.2.2.1+(1:Int))),()),h,()))
else
 some (.inr (((),()),y.2.1,()))
noncomputable def II:A0.J->Option (aF HZ):=bu Ja
theorem ai1:aX Z (ap (codeOf Tryz.f294) 1 58) (bb A0 HZ II):=bW LM (by kernel_rfl) aj fun y=>by kernel_rfl
abbrev At:Shape:=⟨[a' 3 3000192,ad 5],[bg 3000192 .u32 3 0],100⟩
abbrev GK:List aR:=[(.exit 2,⟨[a' 3 3000192],[bg 3000192 .u32 3 0],100⟩)]
noncomputable def Hy(y:At.J):bR At GK:=
 bif(decide (y.1.2.1<(64:Int))) then
(aU y.2.1.length (IntKind.i64.wrap (y.1.2.1-(15:Int)))).bind fun a=>
(y.2.1[a]?).bind fun b=>
(aU y.2.1.length (IntKind.i64.wrap (y.1.2.1-(2:Int)))).bind fun c=>
(y.2.1[c]?).bind fun d=>
(f296 ((b,(7:Int),()),())).bind fun e=>
(f296 ((b,(18:Int),()),())).bind fun f=>
(fM .u32 b (3:Int)).bind fun g=>
(f296 ((d,(17:Int),()),())).bind fun h=>
(f296 ((d,(19:Int),()),())).bind fun i=>
(fM .u32 d (10:Int)).bind fun j=>
(aU y.2.1.length (IntKind.i64.wrap (y.1.2.1-(16:Int)))).bind fun k=>
(y.2.1[k]?).bind fun l=>
(aU y.2.1.length (IntKind.i64.wrap (y.1.2.1-(7:Int)))).bind fun m=>
(y.2.1[m]?).bind fun n=>
(cw 4 y.2.1 ([(IntKind.u32.wrap ((IntKind.u32.wrap ((IntKind.u32.wrap (l+(dx .u32 (dx .u32 e.1.1 f.1.1) g)))+n))+(dx .u32 (dx .u32 h.1.1 i.1.1) j)))]:List Int)).bind fun D=>
 some (.inl (((),(IntKind.i64.wrap (y.1.2.1+(1:Int))),()),D,()))
else
 some (.inr (((),()),y.2.1,()))
noncomputable def Ha:At.J->Option (aF GK):=bu Hy
theorem ahk:aX Z (ap (codeOf Tryz.f294) 1 122) (bb At GK Ha):=bW LM (by kernel_rfl) aj fun y=>by kernel_rfl
abbrev i294:Shape:=⟨[aM 0 .u8],[],100⟩
abbrev VN:Shape:=⟨[a' 2 3000128],[bg 3000128 .u32 2 0],100⟩
noncomputable def f294(a:i294.J):Option VN.J:=
(j2 4 (0:Int) (64:Int) (0:Int)).bind fun b=>
(II ((a.1.1,(),(0:Int),()),b,())).bind fun c=>
(Ha (((),(16:Int),()),c.2.1,())).bind fun d=>
 some (((),()),d.2.1,())
noncomputable def XK:aK:=a6 ak Tryz.f294 i294 VN [] f294
theorem anF:aL Z 294 XK:=ba LM Tryz.func294 (by kernel_rfl) (bd ai1 (bd ahk aj)) (fun y=>by kernel_rfl) fun a=>by kernel_rfl
theorem gC{J bx:Type}{g:J->Option (Sum J bx)}(st:Nat->J)(n:Nat){b:bx}(h:∀i,i<n->g (st i)=some (.inl (st (i+1))))(he:g (st n)=some (.inr b)):∀k i,i+k=n->bu g (st i)=some b:=by
 intro k;induction k with
 |zero=>
  intro i hi;obtain rfl:i=n:=by omega
  exact cx he
 |succ k ih=>
  intro i hi;rw[dL (h i (by omega))]
  exact ih (i+1) (by omega)
theorem ahM(k:IntKind)(x y:Int):iD k x y=iD k y x:=by unfold iD;rw[BitVec.or_comm]
def lq(x n:Int):Int:=iD .u32 (x.fdiv (2^n.toNat)) (IntKind.u32.wrap (x*2^(32-n).toNat))
def e_(n:Int):Prop:=n=2\/n=6\/n=7\/n=11\/n=13\/n=17\/n=18\/n=19\/n=22\/n=25
theorem nQ(x n:Int)(h:e_ n):f296 ((x,(n,())),())=some ((lq x n,()),()):=by
 rcases h with rfl|rfl|rfl|rfl|rfl|rfl|rfl|rfl|rfl|rfl<;>rfl
theorem iu(x n:Int)(h:e_ n):f284 ((x,(n,())),())=some ((lq x n,()),()):=by
 have a2:eS .u64 (IntKind.u64.wrap (IntKind.i64.wrap (0-2))) 31=30:=by decide
 have zh:eS .u64 (IntKind.u64.wrap (IntKind.i64.wrap (0-6))) 31=26:=by decide
 have zg:eS .u64 (IntKind.u64.wrap (IntKind.i64.wrap (0-7))) 31=25:=by decide
 have M7:eS .u64 (IntKind.u64.wrap (IntKind.i64.wrap (0-11))) 31=21:=by decide
 have auR:eS .u64 (IntKind.u64.wrap (IntKind.i64.wrap (0-13))) 31=19:=by decide
 have auP:eS .u64 (IntKind.u64.wrap (IntKind.i64.wrap (0-17))) 31=15:=by decide
 have auO:eS .u64 (IntKind.u64.wrap (IntKind.i64.wrap (0-18))) 31=14:=by decide
 have auN:eS .u64 (IntKind.u64.wrap (IntKind.i64.wrap (0-19))) 31=13:=by decide
 have auM:eS .u64 (IntKind.u64.wrap (IntKind.i64.wrap (0-22))) 31=10:=by decide
 have auL:eS .u64 (IntKind.u64.wrap (IntKind.i64.wrap (0-25))) 31=7:=by decide
 unfold lq;rw[ahM];rcases h with rfl|rfl|rfl|rfl|rfl|rfl|rfl|rfl|rfl|rfl<;>simp only[f284,f303,a2,zh,zg,M7,auR,auP,auO,auN,auM,auL]<;>rfl
theorem p4{x:Int}(h0:0<=x)(h1:x<4294967296):IntKind.u32.wrap x=x:=by rw[IntKind.wrap_u32];omega
theorem F_{a:Nat}(h:a<4294967296):(BitVec.ofInt IntKind.u32.bits (a:Int)).toNat=a:=by
 rw[BitVec.ofInt_natCast,BitVec.toNat_ofNat];exact Nat.mod_eq_of_lt h
theorem By{m y k:Nat}(hy:y<2^k)(h:m*2^k+y<4294967296):iD .u32 ((m*2^k:Nat):Int) (y:Int)=((m*2^k+y:Nat):Int):=by
 unfold iD;rw[BitVec.toNat_or,F_ (by omega),F_ (by omega),<-Nat.shiftLeft_eq,<-Nat.shiftLeft_add_eq_or_of_lt hy,Nat.shiftLeft_eq,p4 (by omega) (by omega)]
abbrev k5(x:Int):Prop:=0<=x/\x<=255
def wd(a b c d:Int):Int:=a*16777216+b*65536+c*256+d
def h6(w c:Int):Int:=iD .u32 (IntKind.u32.wrap (w*256)) (IntKind.u32.wrap c)
theorem zP{w c:Nat}(hw:w<16777216)(hc:c<256):h6 w c=((w*256+c:Nat):Int):=by
 unfold h6;rw[p4 (x:=(w:Int)*256) (by omega) (by omega),p4 (x:=(c:Int)) (by omega) (by omega)]
 exact By (k:=8) (by omega) (by omega)
theorem ql{x:Int}(h:k5 x):∃n:Nat,x=n/\n<256:=by
 obtain⟨n,rfl⟩:=Int.eq_ofNat_of_zero_le h.1;exact⟨n,rfl,by omega⟩
theorem aiF{a b c d:Int}(ha:k5 a)(hb:k5 b)(hc:k5 c)(Y:k5 d):h6 (h6 (h6 (h6 0 a) b) c) d=wd a b c d:=by
 obtain⟨a,rfl,sX⟩:=ql ha;obtain⟨b,rfl,sW⟩:=ql hb;obtain⟨c,rfl,y9⟩:=ql hc;obtain⟨d,rfl,y8⟩:=ql Y;have fc:h6 0 (a:Int)=((0*256+a:Nat):Int):=zP (w:=0) (by omega) sX
 rw[fc,zP (by omega) sW,zP (by omega) y9,zP (by omega) y8]
 unfold wd;omega
theorem aiE{a b c d:Int}(ha:k5 a)(hb:k5 b)(hc:k5 c)(Y:k5 d):
  iD .u32 (iD .u32 (iD .u32 (IntKind.u32.wrap (IntKind.u32.wrap a*16777216)) (IntKind.u32.wrap (IntKind.u32.wrap b*65536))) (IntKind.u32.wrap (IntKind.u32.wrap c*256))) (IntKind.u32.wrap d)=wd a b c d:=by
 obtain⟨a,rfl,sX⟩:=ql ha;obtain⟨b,rfl,sW⟩:=ql hb;obtain⟨c,rfl,y9⟩:=ql hc;obtain⟨d,rfl,y8⟩:=ql Y;have w:∀{x:Nat},x<256->IntKind.u32.wrap (x:Int)=x:=fun h=>p4 (by omega) (by omega)
 rw[w sX,w sW,w y9,w y8,p4 (x:=(a:Int)*16777216) (by omega) (by omega),p4 (x:=(b:Int)*65536) (by omega) (by omega),p4 (x:=(c:Int)*256) (by omega) (by omega)]
 have e1:iD .u32 ((a:Int)*16777216) ((b:Int)*65536)=(((a*256+b)*2^16:Nat):Int):=by
  have:=By (m:=a) (y:=b*65536) (k:=24) (by omega) (by omega)
  rw[show((a:Int)*16777216)=((a*2^24:Nat):Int) by omega,show((b:Int)*65536)=((b*65536:Nat):Int) by omega,this];omega
 have e2:iD .u32 (((a*256+b)*2^16:Nat):Int) ((c:Int)*256)=((((a*256+b)*256+c)*2^8:Nat):Int):=by
  have:=By (m:=a*256+b) (y:=c*256) (k:=16) (by omega) (by omega)
  rw[show((c:Int)*256)=((c*256:Nat):Int) by omega,this];omega
 have bp:=By (m:=(a*256+b)*256+c) (y:=d) (k:=8) (by omega) (by omega)
 rw[e1,e2,bp];unfold wd;omega
def gb(b:List Int)(i:Nat):Int:=b.getD i 0
def L6(x:Int):Int:=dx .u32 (dx .u32 (lq x 7) (lq x 18)) (x.fdiv 8)
def L5(x:Int):Int:=dx .u32 (dx .u32 (lq x 17) (lq x 19)) (x.fdiv 1024)
def xL(w:List Int)(i:Nat):Int:=IntKind.u32.wrap (IntKind.u32.wrap (IntKind.u32.wrap (gb w (i-16)+L6 (gb w (i-15)))+gb w (i-7))+L5 (gb w (i-2)))
def cv(b:List Int):Nat->List Int
 |0=>[]
 |i+1=>cv b i++[bif decide (i<16) then wd (gb b (4*i)) (gb b (4*i+1)) (gb b (4*i+2)) (gb b (4*i+3)) else xL (cv b i) i]
theorem oX(b:List Int):∀i,(cv b i).length=i
 |0=>rfl
 |i+1=>by simp[cv,oX b i]
theorem mV{b:List Int}{j:Nat}(h:j<b.length):b[j]? =some (gb b j):=by
 unfold gb;rw[List.getD_eq_getElem?_getD,List.getElem?_eq_getElem h];rfl
theorem xv{b:List Int}{j:Nat}(h:j<b.length):aQ b (j:Int)=some (gb b j):=by rw[cc];exact mV h
theorem VC(x:Int):fM .u32 x 3=some (x.fdiv 8):=rfl
theorem UI(x:Int):fM .u32 x 10=some (x.fdiv 1024):=rfl
theorem amB(x:Int):mn .u32 x 24=some (IntKind.u32.wrap (x*16777216)):=rfl
theorem amC(x:Int):mn .u32 x 16=some (IntKind.u32.wrap (x*65536)):=rfl
theorem xH(x:Int):mn .u32 x 8=some (IntKind.u32.wrap (x*256)):=rfl
abbrev sP(b:List Int):Prop:=b.length=64/\∀x,x∈b->k5 x
theorem sP.qZ{b:List Int}(h:sP b){j:Nat}(hj:j<64):k5 (gb b j):=by
 refine h.2 _ ?_
 have:=mV (b:=b) (j:=j) (by rw[h.1];exact hj)
 exact List.mem_of_getElem? this
theorem pP{i:Nat}(h:i<=64)(j:Nat)(hj:j<=4):IntKind.i64.wrap (IntKind.i64.wrap ((4:Int)*(i:Int))+(j:Int))=((4*i+j:Nat):Int):=by
 rw[c' (n:=4*(i:Int)) (by omega) (by omega),c' (by omega) (by omega)];omega
theorem u5{i:Nat}(h:i<=64):IntKind.i64.wrap ((4:Int)*(i:Int))=((4*i:Nat):Int):=by
 rw[c' (n:=4*(i:Int)) (by omega) (by omega)];omega
theorem q5{i:Nat}{q:Int}(k:Nat)(e:q=(k:Int))(h:i<=64)(hk:k<=i):IntKind.i64.wrap ((i:Int)-q)=((i-k:Nat):Int):=by
 subst e;rw[c' (by omega) (by omega)];omega
theorem wp{i:Nat}(h:i<=64):IntKind.i64.wrap ((i:Int)+1)=((i+1:Nat):Int):=b6 (by unfold am;omega)
theorem aeR(b:List Int)(h:sP b):f294 ((b,()),())=some (((),()),(cv b 64,())):=by
 have aw:II ((b,((),((0:Int),()))),(([]:List Int),()))=some (((),()),(cv b 16,())):=by
  refine gC (g:=Ja) (fun i=>((b,((),((i:Int),()))),(cv b i,()))) 16 (fun i hi=>?_) rfl 16 0 rfl
  have hl:decide ((i:Int)<16)=true:=by simp;omega
  have h0:=xv (b:=b) (j:=4*i) (by rw[h.1];omega)
  have h1:=xv (b:=b) (j:=4*i+1) (by rw[h.1];omega)
  have h2:=xv (b:=b) (j:=4*i+2) (by rw[h.1];omega)
  have h3:=xv (b:=b) (j:=4*i+3) (by rw[h.1];omega)
  have q1:IntKind.i64.wrap (((4*i:Nat):Int)+1)=((4*i+1:Nat):Int):=by have:=pP (i:=i) (by omega) 1 (by omega);rwa[u5 (by omega)] at this
  have q2:IntKind.i64.wrap (((4*i:Nat):Int)+2)=((4*i+2:Nat):Int):=by have:=pP (i:=i) (by omega) 2 (by omega);rwa[u5 (by omega)] at this
  have dq:IntKind.i64.wrap (((4*i:Nat):Int)+3)=((4*i+3:Nat):Int):=by have:=pP (i:=i) (by omega) 3 (by omega);rwa[u5 (by omega)] at this
  have hw:=aiE (h.qZ (j:=4*i) (by omega)) (h.qZ (j:=4*i+1) (by omega)) (h.qZ (j:=4*i+2) (by omega)) (h.qZ (j:=4*i+3) (by omega))
  have Y:decide (i<16)=true:=by simpa using hi
  simp only[Ja,hl,cond_true,u5 (i:=i) (by omega),q1,q2,dq,h0,h1,h2,h3,Option.bind_some,amB,amC,xH,hw,wp (i:=i) (by omega)]
  rw[ew (by decide) (by rw[oX];unfold am;simp;omega)]
  simp only[Option.bind_some,cv,Y,cond_true]
 have an:Ha (((),((16:Int),())),(cv b 16,()))=some (((),()),(cv b 64,())):=by
  refine gC (g:=Hy) (fun i=>(((),(((16+i:Nat):Int),())),(cv b (16+i),()))) 48 (fun i hi=>?_) rfl 48 0 rfl
  have hl:decide (((16+i:Nat):Int)<64)=true:=by simp;omega
  have hlen:=oX b (16+i);have Y:decide (16+i<16)=false:=by simp
  have t7:=fun x=>nQ x 7 (by simp[e_]);have t18:=fun x=>nQ x 18 (by simp[e_])
  have t17:=fun x=>nQ x 17 (by simp[e_]);have t19:=fun x=>nQ x 19 (by simp[e_])
  have i15:aU (cv b (16+i)).length (IntKind.i64.wrap (((16+i:Nat):Int)-15))=some (16+i-15):=by rw[q5 (i:=16+i) (q:=15) 15 rfl (by omega) (by omega)];exact gg (by rw[hlen];omega)
  have i2:aU (cv b (16+i)).length (IntKind.i64.wrap (((16+i:Nat):Int)-2))=some (16+i-2):=by rw[q5 (i:=16+i) (q:=2) 2 rfl (by omega) (by omega)];exact gg (by rw[hlen];omega)
  have i16:aU (cv b (16+i)).length (IntKind.i64.wrap (((16+i:Nat):Int)-16))=some (16+i-16):=by rw[q5 (i:=16+i) (q:=16) 16 rfl (by omega) (by omega)];exact gg (by rw[hlen];omega)
  have i7:aU (cv b (16+i)).length (IntKind.i64.wrap (((16+i:Nat):Int)-7))=some (16+i-7):=by rw[q5 (i:=16+i) (q:=7) 7 rfl (by omega) (by omega)];exact gg (by rw[hlen];omega)
  have g15:=mV (b:=cv b (16+i)) (j:=16+i-15) (by rw[hlen];omega)
  have g2:=mV (b:=cv b (16+i)) (j:=16+i-2) (by rw[hlen];omega)
  have g16:=mV (b:=cv b (16+i)) (j:=16+i-16) (by rw[hlen];omega)
  have g7:=mV (b:=cv b (16+i)) (j:=16+i-7) (by rw[hlen];omega)
  simp only[Hy,hl,cond_true,i15,i2,i16,i7,g15,g2,g16,g7,Option.bind_some,t7,t18,t17,t19,VC,UI,wp (i:=16+i) (by omega)]
  rw[ew (by decide) (by rw[hlen];unfold am;simp;omega)]
  have hs:cv b (16+(i+1))=cv b (16+i)++[xL (cv b (16+i)) (16+i)]:=by
   show cv b ((16+i)+1)=_;simp only[cv,Y,cond_false]
  simp only[Option.bind_some,hs,xL,L6,L5];rfl
 have hm:j2 4 (0:Int) (64:Int) (0:Int)=some ([]:List Int):=rfl;simp only[f294,hm,Option.bind_some,aw,an]
abbrev i295:Shape:=⟨[],[],2⟩
abbrev VM:Shape:=⟨[a' 0 3000000],[bg 3000000 .u32 0 0],2⟩
noncomputable def f295(a:i295.J):Option VM.J:=
 some (((),()),([(1116352408:Int),(1899447441:Int),(3049323471:Int),(3921009573:Int),(961987163:Int),(1508970993:Int),(2453635748:Int),(2870763221:Int),(3624381080:Int),(310598401:Int),(607225278:Int),(1426881987:Int),(1925078388:Int),(2162078206:Int),(2614888103:Int),(3248222580:Int),(3835390401:Int),(4022224774:Int),(264347078:Int),(604807628:Int),(770255983:Int),(1249150122:Int),(1555081692:Int),(1996064986:Int),(2554220882:Int),(2821834349:Int),(2952996808:Int),(3210313671:Int),(3336571891:Int),(3584528711:Int),(113926993:Int),(338241895:Int),(666307205:Int),(773529912:Int),(1294757372:Int),(1396182291:Int),(1695183700:Int),(1986661051:Int),(2177026350:Int),(2456956037:Int),(2730485921:Int),(2820302411:Int),(3259730800:Int),(3345764771:Int),(3516065817:Int),(3600352804:Int),(4094571909:Int),(275423344:Int),(430227734:Int),(506948616:Int),(659060556:Int),(883997877:Int),(958139571:Int),(1322822218:Int),(1537002063:Int),(1747873779:Int),(1955562222:Int),(2024104815:Int),(2227730452:Int),(2361852424:Int),(2428436474:Int),(2756734187:Int),(3204031479:Int),(3329325298:Int)]:List Int),())
noncomputable def XJ:aK:=a6 ak Tryz.f295 i295 VM [] f295
theorem anE:aL Z 295 XJ:=ba g0 Tryz.func295 (by kernel_rfl) aj (fun y=>by kernel_rfl) fun a=>by kernel_rfl
noncomputable abbrev aqd:bl:=[(294,XK),(295,XJ),(296,Lu)]
theorem DU:bc Z (bi ak aqd):=bj ⟨anF,anE,Vp,⟨⟩⟩
abbrev zr:Shape:=⟨[aM 0 .u32,a' 5 3000320,a' 6 3000384,a' 7 3000448,ad 8,(11,.ag (.d (.int .u32))),(12,.ag (.d (.int .u32))),(13,.ag (.d (.int .u32))),ad 14],[bg 3000320 .u32 5 0,bg 3000384 .u32 6 0,bg 3000448 .u32 7 0],155⟩
abbrev Ff:List aR:=[(.exit 2,⟨[aM 0 .u32,a' 5 3000320,a' 6 3000384,a' 7 3000448,ad 8,(11,.ag (.d (.int .u32))),(12,.ag (.d (.int .u32))),(13,.ag (.d (.int .u32)))],[bg 3000320 .u32 5 0,bg 3000384 .u32 6 0,bg 3000448 .u32 7 0],155⟩)]
noncomputable def Oq(y:zr.J):bR zr Ff:=
 bif(decide (y.1.2.2.2.2.2.2.2.2.1>(0:Int))) then
(aU y.2.2.2.1.length (IntKind.i64.wrap (y.1.2.2.2.2.2.2.2.2.1-(1:Int)))).bind fun a=>
(y.2.2.2.1[a]?).bind fun b=>
(aU y.2.2.2.1.length y.1.2.2.2.2.2.2.2.2.1).bind fun c=>
((y.2.2.2.1[c]?).bind fun q=>some b).bind fun d=>
 some (.inl ((y.1.1,(),(),(),y.1.2.2.2.2.1,y.1.2.2.2.2.2.1,y.1.2.2.2.2.2.2.1,y.1.2.2.2.2.2.2.2.1,(IntKind.i64.wrap (y.1.2.2.2.2.2.2.2.2.1-(1:Int))),()),y.2.1,y.2.2.1,(y.2.2.2.1.set c d),()))
else
 some (.inr ((y.1.1,(),(),(),y.1.2.2.2.2.1,y.1.2.2.2.2.2.1,y.1.2.2.2.2.2.2.1,y.1.2.2.2.2.2.2.2.1,()),y.2.1,y.2.2.1,y.2.2.2.1,()))
noncomputable def Fi:zr.J->Option (aF Ff):=bu Oq
theorem acd:aX Z (ap (di (ap (codeOf Tryz.f270) 1 250)) 500 1025274) (bb zr Ff Fi):=bW DU (by kernel_rfl) aj fun y=>by kernel_rfl
abbrev Au:Shape:=⟨[aM 0 .u32,a' 5 3000320,a' 6 3000384,a' 7 3000448,ad 8],[bg 3000320 .u32 5 0,bg 3000384 .u32 6 0,bg 3000448 .u32 7 0],155⟩
abbrev GL:List aR:=[(.exit 0,⟨[aM 0 .u32,a' 7 3000448],[bg 3000448 .u32 7 0],155⟩)]
noncomputable def Hz(y:Au.J):bR Au GL:=
 bif(decide (y.1.2.2.2.2.1<(64:Int))) then
(aU y.2.2.2.1.length (4:Int)).bind fun a=>
(y.2.2.2.1[a]?).bind fun b=>
(f296 ((b,(6:Int),()),())).bind fun c=>
(aU y.2.2.2.1.length (4:Int)).bind fun d=>
(y.2.2.2.1[d]?).bind fun e=>
(f296 ((e,(11:Int),()),())).bind fun f=>
(aU y.2.2.2.1.length (4:Int)).bind fun g=>
(y.2.2.2.1[g]?).bind fun h=>
(f296 ((h,(25:Int),()),())).bind fun i=>
(aU y.2.2.2.1.length (4:Int)).bind fun j=>
(y.2.2.2.1[j]?).bind fun k=>
(aU y.2.2.2.1.length (5:Int)).bind fun l=>
(y.2.2.2.1[l]?).bind fun m=>
(aU y.2.2.2.1.length (4:Int)).bind fun n=>
(y.2.2.2.1[n]?).bind fun D=>
(aU y.2.2.2.1.length (6:Int)).bind fun p=>
(y.2.2.2.1[p]?).bind fun r=>
(aU y.2.2.2.1.length (7:Int)).bind fun s=>
(y.2.2.2.1[s]?).bind fun t=>
(aU y.2.2.1.length y.1.2.2.2.2.1).bind fun u=>
(y.2.2.1[u]?).bind fun v=>
(aU y.2.1.length y.1.2.2.2.2.1).bind fun w=>
(y.2.1[w]?).bind fun x=>
(aU y.2.2.2.1.length (0:Int)).bind fun z=>
(y.2.2.2.1[z]?).bind fun A=>
(f296 ((A,(2:Int),()),())).bind fun bx=>
(aU y.2.2.2.1.length (0:Int)).bind fun C=>
(y.2.2.2.1[C]?).bind fun aJ=>
(f296 ((aJ,(13:Int),()),())).bind fun E=>
(aU y.2.2.2.1.length (0:Int)).bind fun aO=>
(y.2.2.2.1[aO]?).bind fun G=>
(f296 ((G,(22:Int),()),())).bind fun H=>
(aU y.2.2.2.1.length (0:Int)).bind fun I=>
(y.2.2.2.1[I]?).bind fun fA=>
(aU y.2.2.2.1.length (1:Int)).bind fun K=>
(y.2.2.2.1[K]?).bind fun L=>
(aU y.2.2.2.1.length (0:Int)).bind fun fJ=>
(y.2.2.2.1[fJ]?).bind fun N=>
(aU y.2.2.2.1.length (2:Int)).bind fun awU=>
(y.2.2.2.1[awU]?).bind fun P=>
(aU y.2.2.2.1.length (1:Int)).bind fun Q=>
(y.2.2.2.1[Q]?).bind fun R=>
(aU y.2.2.2.1.length (2:Int)).bind fun S=>
(y.2.2.2.1[S]?).bind fun T=>
(Fi ((y.1.1,(),(),(),y.1.2.2.2.2.1,(IntKind.u32.wrap ((IntKind.u32.wrap ((IntKind.u32.wrap ((IntKind.u32.wrap (t+(dx .u32 (dx .u32 c.1.1 f.1.1) i.1.1)))+(dx .u32 (eS .u32 k m) (eS .u32 (dx .u32 4294967295 D) r))))+v))+x)),(dx .u32 (dx .u32 bx.1.1 E.1.1) H.1.1),(dx .u32 (dx .u32 (eS .u32 fA L) (eS .u32 N P)) (eS .u32 R T)),(7:Int),()),y.2.1,y.2.2.1,y.2.2.2.1,())).bind fun dl=>
(aU dl.2.2.2.1.length (4:Int)).bind fun V=>
(dl.2.2.2.1[V]?).bind fun W=>
(aU dl.2.2.2.1.length (4:Int)).bind fun X=>
((dl.2.2.2.1[X]?).bind fun q=>some (IntKind.u32.wrap (W+dl.1.2.2.2.2.2.1))).bind fun N3=>
(aU (dl.2.2.2.1.set X N3).length (0:Int)).bind fun a0=>
(((dl.2.2.2.1.set X N3)[a0]?).bind fun q=>some (IntKind.u32.wrap ((IntKind.u32.wrap (dl.1.2.2.2.2.2.1+dl.1.2.2.2.2.2.2.1))+dl.1.2.2.2.2.2.2.2.1))).bind fun a1=>
 some (.inl ((dl.1.1,(),(),(),(IntKind.i64.wrap (dl.1.2.2.2.2.1+(1:Int))),()),dl.2.1,dl.2.2.1,((dl.2.2.2.1.set X N3).set a0 a1),()))
else
 some (.inr ((y.1.1,(),()),y.2.2.2.1,()))
noncomputable def Hb:Au.J->Option (aF GL):=bu Hz
theorem ahl:aX Z (ap (codeOf Tryz.f270) 1 250) (bb Au GL Hb):=bW DU (by kernel_rfl) (bd acd aj) fun y=>by kernel_rfl
abbrev zT:Shape:=⟨[aM 0 .u32,a' 7 3000448,a' 15 3000960,ad 16],[bg 3000448 .u32 7 0,bg 3000960 .u32 15 0],155⟩
abbrev FS:List aR:=[(.exit 4,⟨[a' 15 3000960],[bg 3000960 .u32 15 0],155⟩)]
noncomputable def QF(y:zT.J):bR zT FS:=
 bif(decide (y.1.2.2.2.1<(8:Int))) then
(aQ y.1.1 y.1.2.2.2.1).bind fun a=>
(aU y.2.1.length y.1.2.2.2.1).bind fun b=>
(y.2.1[b]?).bind fun c=>
(cw 4 y.2.2.1 ([(IntKind.u32.wrap (a+c))]:List Int)).bind fun d=>
 some (.inl ((y.1.1,(),(),(IntKind.i64.wrap (y.1.2.2.2.1+(1:Int))),()),y.2.1,d,()))
else
 some (.inr (((),()),y.2.2.1,()))
noncomputable def Gf:zT.J->Option (aF FS):=bu QF
theorem afv:aX Z (ap (codeOf Tryz.f270) 1 1018) (bb zT FS Gf):=bW DU (by kernel_rfl) aj fun y=>by kernel_rfl
abbrev i270:Shape:=⟨[aM 0 .u32,aM 1 .u8],[],155⟩
abbrev VT:Shape:=⟨[a' 4 3000256],[bg 3000256 .u32 4 0],155⟩
noncomputable def f270(a:i270.J):Option VT.J:=
(f294 ((a.1.2.1,()),())).bind fun b=>
(f295 ((),())).bind fun c=>
(cw 4 ([]:List Int) a.1.1).bind fun d=>
(Hb ((a.1.1,(),(),(),(0:Int),()),b.2.1,c.2.1,d,())).bind fun e=>
(Gf ((e.1.1,(),(),(0:Int),()),e.2.1,([]:List Int),())).bind fun f=>
 some (((),()),f.2.1,())
noncomputable def XP:aK:=a6 ak Tryz.f270 i270 VT [] f270
theorem anK:aL Z 270 XP:=ba DU Tryz.func270 (by kernel_rfl) (bd ahl (bd afv aj)) (fun y=>by kernel_rfl) fun a=>by kernel_rfl
structure ct where
 (a b c d e f g h:Int)
def ct.list(s:ct):List Int:=[s.a,s.b,s.c,s.d,s.e,s.f,s.g,s.h]
def M4(e:Int):Int:=dx .u32 (dx .u32 (lq e 6) (lq e 11)) (lq e 25)
def M5(a:Int):Int:=dx .u32 (dx .u32 (lq a 2) (lq a 13)) (lq a 22)
def M3(e f g:Int):Int:=dx .u32 (eS .u32 e f) (eS .u32 (dx .u32 4294967295 e) g)
def Ma(a b c:Int):Int:=dx .u32 (dx .u32 (eS .u32 a b) (eS .u32 a c)) (eS .u32 b c)
def D7(s:ct)(k w:Int):Int:=IntKind.u32.wrap (IntKind.u32.wrap (IntKind.u32.wrap (IntKind.u32.wrap (s.h+M4 s.e)+M3 s.e s.f s.g)+k)+w)
def xI(k w:Int)(s:ct):ct:=⟨IntKind.u32.wrap (D7 s k w+IntKind.u32.wrap (M5 s.a+Ma s.a s.b s.c)),s.a,s.b,s.c,IntKind.u32.wrap (s.d+D7 s k w),s.e,s.f,s.g⟩
def np(h:ct)(w:List Int):Nat->ct
 |0=>h
 |i+1=>xI (gb jj i) (gb w i) (np h w i)
def DO(h s:ct):ct:=⟨IntKind.u32.wrap (h.a+s.a),IntKind.u32.wrap (h.b+s.b),IntKind.u32.wrap (h.c+s.c),IntKind.u32.wrap (h.d+s.d),IntKind.u32.wrap (h.e+s.e),IntKind.u32.wrap (h.f+s.f),IntKind.u32.wrap (h.g+s.g),IntKind.u32.wrap (h.h+s.h)⟩
def x2(h:ct)(b:List Int):ct:=DO h (np h (cv b 64) 64)
theorem aiD(x y z:Int):IntKind.u32.wrap (IntKind.u32.wrap (x+y)+z)=IntKind.u32.wrap (x+IntKind.u32.wrap (y+z)):=by
 simp only[IntKind.wrap_u32];omega
theorem ct.i0(s:ct):aU s.list.length 0=some 0:=rfl
theorem ct.i1(s:ct):aU s.list.length 1=some 1:=rfl
theorem ct.i2(s:ct):aU s.list.length 2=some 2:=rfl
theorem ct.i4(s:ct):aU s.list.length 4=some 4:=rfl
theorem ct.i5(s:ct):aU s.list.length 5=some 5:=rfl
theorem ct.i6(s:ct):aU s.list.length 6=some 6:=rfl
theorem ct.i7(s:ct):aU s.list.length 7=some 7:=rfl
theorem ct.g0(s:ct):s.list[0]? =some s.a:=rfl
theorem ct.g1(s:ct):s.list[1]? =some s.b:=rfl
theorem ct.g2(s:ct):s.list[2]? =some s.c:=rfl
theorem ct.g4(s:ct):s.list[4]? =some s.e:=rfl
theorem ct.g5(s:ct):s.list[5]? =some s.f:=rfl
theorem ct.g6(s:ct):s.list[6]? =some s.g:=rfl
theorem ct.g7(s:ct):s.list[7]? =some s.h:=rfl
def hd(s:ct):Nat->List Int
 |0=>s.list
 |1=>[s.a,s.b,s.c,s.d,s.e,s.f,s.g,s.g]
 |2=>[s.a,s.b,s.c,s.d,s.e,s.f,s.f,s.g]
 |3=>[s.a,s.b,s.c,s.d,s.e,s.e,s.f,s.g]
 |4=>[s.a,s.b,s.c,s.d,s.d,s.e,s.f,s.g]
 |5=>[s.a,s.b,s.c,s.c,s.d,s.e,s.f,s.g]
 |6=>[s.a,s.b,s.b,s.c,s.d,s.e,s.f,s.g]
 |_=>[s.a,s.a,s.b,s.c,s.d,s.e,s.f,s.g]
theorem Iy:jj.length=64:=by decide
theorem aeT(h:ct)(b:List Int)(hb:sP b):f270 ((h.list,(b,())),())=some (((),()),((x2 h b).list,())):=by
 have mG:=aeR b hb;have t2:=fun x=>nQ x 2 (by simp[e_]);have t6:=fun x=>nQ x 6 (by simp[e_]);have t11:=fun x=>nQ x 11 (by simp[e_])
 have t13:=fun x=>nQ x 13 (by simp[e_]);have t22:=fun x=>nQ x 22 (by simp[e_]);have t25:=fun x=>nQ x 25 (by simp[e_])
 have ks:∀(q:List Int) (i iZ iY p3:Int) (w:List Int) (s:ct),Fi ((q,((),((),((),(i,(iZ,(iY,(p3,((7:Int),()))))))))),(w,(jj,(s.list,()))))=
   some ((q,((),((),((),(i,(iZ,(iY,(p3,())))))))),(w,(jj,(([s.a,s.a,s.b,s.c,s.d,s.e,s.f,s.g]:List Int),())))):=by
  intro q i iZ iY p3 w s;refine gC (g:=Oq) (fun j=>((q,((),((),((),(i,(iZ,(iY,(p3,(((7-j:Nat):Int),()))))))))),(w,(jj,(hd s j,()))))) 7 (fun j hj=>?_) rfl 7 0 rfl
  have:j=0\/j=1\/j=2\/j=3\/j=4\/j=5\/j=6:=by omega
  rcases this with rfl|rfl|rfl|rfl|rfl|rfl|rfl<;>rfl
 have bC:f295 ((),())=some (((),()),(jj,())):=rfl;have hc:cw 4 ([]:List Int) h.list=some h.list:=rfl;have aw:Hb ((h.list,((),((),((),((0:Int),()))))),(cv b 64,(jj,(h.list,()))))=some ((h.list,((),())),((np h (cv b 64) 64).list,())):=by
  refine gC (g:=Hz) (fun i=>((h.list,((),((),((),((i:Int),()))))),(cv b 64,(jj,((np h (cv b 64) i).list,()))))) 64 (fun i hi=>?_) rfl 64 0 rfl
  have hl:decide ((i:Int)<64)=true:=by simp;omega
  have i1:aU jj.length (i:Int)=some i:=gg (by rw[Iy];exact hi)
  have g1:=mV (b:=jj) (j:=i) (by rw[Iy];exact hi)
  have i2:aU (cv b 64).length (i:Int)=some i:=gg (by rw[oX];exact hi)
  have g2:=mV (b:=cv b 64) (j:=i) (by rw[oX];exact hi)
  have hr:np h (cv b 64) (i+1)=xI (gb jj i) (gb (cv b 64) i) (np h (cv b 64) i):=rfl;generalize np h (cv b 64) i=s at hr ⊢;simp only[Hz,hl,cond_true,ct.i0,ct.i1,ct.i2,ct.i4,ct.i5,ct.i6,ct.i7,ct.g0,ct.g1,ct.g2,ct.g4,ct.g5,ct.g6,ct.g7,i1,g1,i2,g2,Option.bind_some,t2,t6,t11,t13,t22,t25,ks,wp (i:=i) (by omega),hr]
  have e:∀x y:Int,aU ([s.a,s.a,s.b,s.c,s.d,s.e,s.f,s.g]:List Int).length 4=some 4/\([s.a,s.a,s.b,s.c,s.d,s.e,s.f,s.g]:List Int)[4]? =some s.d/\
   aU (([s.a,s.a,s.b,s.c,s.d,s.e,s.f,s.g]:List Int).set 4 x).length 0=some 0/\(([s.a,s.a,s.b,s.c,s.d,s.e,s.f,s.g]:List Int).set 4 x)[0]? =some s.a:=fun x y=>⟨rfl,rfl,rfl,rfl⟩
  simp only[(e 0 0).1,(e 0 0).2.1,(e _ 0).2.2.1,(e _ 0).2.2.2,Option.bind_some,xI,D7,M4,M5,M3,Ma,aiD];rfl
 have an:Gf ((h.list,((),((),((0:Int),())))),((np h (cv b 64) 64).list,(([]:List Int),())))=some (((),()),((x2 h b).list,())):=by
  unfold x2;generalize np h (cv b 64) 64=s;refine gC (g:=QF) (fun i=>((h.list,((),((),((i:Int),())))),(s.list,((DO h s).list.take i,())))) 8 (fun i hi=>?_) rfl 8 0 rfl
  have:i=0\/i=1\/i=2\/i=3\/i=4\/i=5\/i=6\/i=7:=by omega
  rcases this with rfl|rfl|rfl|rfl|rfl|rfl|rfl|rfl<;>rfl
 simp only[f270,mG,bC,hc,Option.bind_some,aw,an]
noncomputable abbrev aqh:bl:=[(284,XN)]
theorem uX:bc Z (bi ak aqh):=bj ⟨anI,⟨⟩⟩
abbrev zC:Shape:=⟨[aM 1 .u8,eW 2 2 .u32,eW 4 4 .u32,eW 5 5 .u32,ad 6,ad 27,aM 36 .u8,ad 37,ad 38],[(2,.row .u32,.same),(4,.row .u32,.same),(5,.row .u32,.same)],208⟩
abbrev FA:List aR:=[(.exit 2,⟨[aM 1 .u8,eW 2 2 .u32,eW 4 4 .u32,eW 5 5 .u32,ad 27],[(2,.row .u32,.same),(4,.row .u32,.same),(5,.row .u32,.same)],208⟩)]
noncomputable def re(y:zC.J):bR zC FA:=
 bif(decide (y.1.2.2.2.2.2.2.2.2.1<y.1.2.2.2.2.2.2.2.1)) then
(aQ y.1.2.2.2.2.2.2.1 y.1.2.2.2.2.2.2.2.2.1).bind fun a=>
((long 64 y.2.2.2.1).bind fun q=>aU q.length y.1.2.2.2.2.1).bind fun b=>
(y.2.2.2.1[b]?).bind fun c=>
(mn .u32 c (8:Int)).bind fun d=>
((long 64 y.2.2.2.1).bind fun q=>aU q.length y.1.2.2.2.2.1).bind fun e=>
((y.2.2.2.1[e]?).bind fun q=>some (iD .u32 d (IntKind.u32.wrap a))).bind fun f=>
 some (.inl ((y.1.1,(),(),(),y.1.2.2.2.2.1,y.1.2.2.2.2.2.1,y.1.2.2.2.2.2.2.1,y.1.2.2.2.2.2.2.2.1,(IntKind.i64.wrap (y.1.2.2.2.2.2.2.2.2.1+(1:Int))),()),y.2.1,y.2.2.1,(y.2.2.2.1.set e f),()))
else
 some (.inr ((y.1.1,(),(),(),y.1.2.2.2.2.2.1,()),y.2.1,y.2.2.1,y.2.2.2.1,()))
noncomputable def FD:zC.J->Option (aF FA):=bu re
theorem adY:aX Z (ap (di (ap (codeOf Tryz.f250) 1 58)) 116 14950) (bb zC FA FD):=bW uX (by kernel_rfl) aj fun y=>by kernel_rfl
abbrev A7:Shape:=⟨[aM 1 .u8,eW 2 2 .u32,eW 4 4 .u32,eW 5 5 .u32,ad 27],[(2,.row .u32,.same),(4,.row .u32,.same),(5,.row .u32,.same)],208⟩
abbrev H6:List aR:=[(.exit 0,⟨[eW 2 2 .u32,eW 4 4 .u32,eW 5 5 .u32],[(2,.row .u32,.same),(4,.row .u32,.same),(5,.row .u32,.same)],208⟩)]
noncomputable def Jc(y:A7.J):bR A7 H6:=
 bif(decide (y.1.2.2.2.2.1<(16:Int))) then
(bD y.1.1 (IntKind.i64.wrap ((4:Int)*y.1.2.2.2.2.1)) (IntKind.i64.wrap ((IntKind.i64.wrap ((4:Int)*y.1.2.2.2.2.1))+(4:Int)))).bind fun a=>
(FD ((y.1.1,(),(),(),y.1.2.2.2.2.1,y.1.2.2.2.2.1,a,(a.length:Int),(0:Int),()),y.2.1,y.2.2.1,y.2.2.2.1,())).bind fun b=>
 some (.inl ((b.1.1,(),(),(),(IntKind.i64.wrap (b.1.2.2.2.2.1+(1:Int))),()),b.2.1,b.2.2.1,b.2.2.2.1,()))
else
 some (.inr (((),(),(),()),y.2.1,y.2.2.1,y.2.2.2.1,()))
noncomputable def IQ:A7.J->Option (aF H6):=bu Jc
theorem ai8:aX Z (ap (codeOf Tryz.f250) 1 58) (bb A7 H6 IQ):=bW uX (by kernel_rfl) (bd adY aj) fun y=>by kernel_rfl
abbrev Aw:Shape:=⟨[eW 2 2 .u32,eW 4 4 .u32,eW 5 5 .u32,ad 9],[(2,.row .u32,.same),(4,.row .u32,.same),(5,.row .u32,.same)],208⟩
abbrev GO:List aR:=[(.exit 4,⟨[eW 2 2 .u32,eW 4 4 .u32,eW 5 5 .u32],[(2,.row .u32,.same),(4,.row .u32,.same),(5,.row .u32,.same)],208⟩)]
noncomputable def HD(y:Aw.J):bR Aw GO:=
 bif(decide (y.1.2.2.2.1<(64:Int))) then
((long 64 y.2.2.2.1).bind fun q=>aU q.length (IntKind.i64.wrap (y.1.2.2.2.1-(15:Int)))).bind fun a=>
(y.2.2.2.1[a]?).bind fun b=>
(f284 ((b,(7:Int),()),())).bind fun c=>
((long 64 y.2.2.2.1).bind fun q=>aU q.length (IntKind.i64.wrap (y.1.2.2.2.1-(15:Int)))).bind fun d=>
(y.2.2.2.1[d]?).bind fun e=>
(f284 ((e,(18:Int),()),())).bind fun f=>
((long 64 y.2.2.2.1).bind fun q=>aU q.length (IntKind.i64.wrap (y.1.2.2.2.1-(15:Int)))).bind fun g=>
(y.2.2.2.1[g]?).bind fun h=>
(fM .u32 h (3:Int)).bind fun i=>
((long 64 y.2.2.2.1).bind fun q=>aU q.length (IntKind.i64.wrap (y.1.2.2.2.1-(2:Int)))).bind fun j=>
(y.2.2.2.1[j]?).bind fun k=>
(f284 ((k,(17:Int),()),())).bind fun l=>
((long 64 y.2.2.2.1).bind fun q=>aU q.length (IntKind.i64.wrap (y.1.2.2.2.1-(2:Int)))).bind fun m=>
(y.2.2.2.1[m]?).bind fun n=>
(f284 ((n,(19:Int),()),())).bind fun D=>
((long 64 y.2.2.2.1).bind fun q=>aU q.length (IntKind.i64.wrap (y.1.2.2.2.1-(2:Int)))).bind fun p=>
(y.2.2.2.1[p]?).bind fun r=>
(fM .u32 r (10:Int)).bind fun s=>
((long 64 y.2.2.2.1).bind fun q=>aU q.length (IntKind.i64.wrap (y.1.2.2.2.1-(16:Int)))).bind fun t=>
(y.2.2.2.1[t]?).bind fun u=>
((long 64 y.2.2.2.1).bind fun q=>aU q.length (IntKind.i64.wrap (y.1.2.2.2.1-(7:Int)))).bind fun v=>
(y.2.2.2.1[v]?).bind fun w=>
((long 64 y.2.2.2.1).bind fun q=>aU q.length y.1.2.2.2.1).bind fun x=>
((y.2.2.2.1[x]?).bind fun q=>some (IntKind.u32.wrap ((IntKind.u32.wrap ((IntKind.u32.wrap (u+(dx .u32 (dx .u32 c.1.1 f.1.1) i)))+w))+(dx .u32 (dx .u32 l.1.1 D.1.1) s)))).bind fun z=>
 some (.inl (((),(),(),(IntKind.i64.wrap (y.1.2.2.2.1+(1:Int))),()),y.2.1,y.2.2.1,(y.2.2.2.1.set x z),()))
else
 some (.inr (((),(),(),()),y.2.1,y.2.2.1,y.2.2.2.1,()))
noncomputable def He:Aw.J->Option (aF GO):=bu HD
theorem ahp:aX Z (ap (codeOf Tryz.f250) 1 122) (bb Aw GO He):=bW uX (by kernel_rfl) aj fun y=>by kernel_rfl
abbrev zV:Shape:=⟨[eW 2 2 .u32,eW 4 4 .u32,eW 5 5 .u32,(12,.ag (.d (.int .u32))),(13,.ag (.d (.int .u32))),(14,.ag (.d (.int .u32))),(15,.ag (.d (.int .u32))),(16,.ag (.d (.int .u32))),(17,.ag (.d (.int .u32))),(18,.ag (.d (.int .u32))),(19,.ag (.d (.int .u32))),ad 122],[(2,.row .u32,.same),(4,.row .u32,.same),(5,.row .u32,.same)],208⟩
abbrev FU:List aR:=[(.exit 6,⟨[eW 2 2 .u32,eW 4 4 .u32,(12,.ag (.d (.int .u32))),(13,.ag (.d (.int .u32))),(14,.ag (.d (.int .u32))),(15,.ag (.d (.int .u32))),(16,.ag (.d (.int .u32))),(17,.ag (.d (.int .u32))),(18,.ag (.d (.int .u32))),(19,.ag (.d (.int .u32)))],[(2,.row .u32,.same),(4,.row .u32,.same)],208⟩)]
noncomputable def Ab(y:zV.J):bR zV FU:=
 bif(decide (y.1.2.2.2.2.2.2.2.2.2.2.2.1<(64:Int))) then
(f284 ((y.1.2.2.2.2.2.2.2.1,(6:Int),()),())).bind fun a=>
(f284 ((y.1.2.2.2.2.2.2.2.1,(11:Int),()),())).bind fun b=>
(f284 ((y.1.2.2.2.2.2.2.2.1,(25:Int),()),())).bind fun c=>
(aQ jj y.1.2.2.2.2.2.2.2.2.2.2.2.1).bind fun d=>
((long 64 y.2.2.2.1).bind fun q=>aU q.length y.1.2.2.2.2.2.2.2.2.2.2.2.1).bind fun e=>
(y.2.2.2.1[e]?).bind fun f=>
(f284 ((y.1.2.2.2.1,(2:Int),()),())).bind fun g=>
(f284 ((y.1.2.2.2.1,(13:Int),()),())).bind fun h=>
(f284 ((y.1.2.2.2.1,(22:Int),()),())).bind fun i=>
 some (.inl (((),(),(),(IntKind.u32.wrap ((IntKind.u32.wrap ((IntKind.u32.wrap ((IntKind.u32.wrap ((IntKind.u32.wrap (y.1.2.2.2.2.2.2.2.2.2.2.1+(dx .u32 (dx .u32 a.1.1 b.1.1) c.1.1)))+(dx .u32 (eS .u32 y.1.2.2.2.2.2.2.2.1 y.1.2.2.2.2.2.2.2.2.1) (eS .u32 (dx .u32 4294967295 y.1.2.2.2.2.2.2.2.1) y.1.2.2.2.2.2.2.2.2.2.1))))+d))+f))+(IntKind.u32.wrap ((dx .u32 (dx .u32 g.1.1 h.1.1) i.1.1)+(dx .u32 (dx .u32 (eS .u32 y.1.2.2.2.1 y.1.2.2.2.2.1) (eS .u32 y.1.2.2.2.1 y.1.2.2.2.2.2.1)) (eS .u32 y.1.2.2.2.2.1 y.1.2.2.2.2.2.1)))))),y.1.2.2.2.1,y.1.2.2.2.2.1,y.1.2.2.2.2.2.1,(IntKind.u32.wrap (y.1.2.2.2.2.2.2.1+(IntKind.u32.wrap ((IntKind.u32.wrap ((IntKind.u32.wrap ((IntKind.u32.wrap (y.1.2.2.2.2.2.2.2.2.2.2.1+(dx .u32 (dx .u32 a.1.1 b.1.1) c.1.1)))+(dx .u32 (eS .u32 y.1.2.2.2.2.2.2.2.1 y.1.2.2.2.2.2.2.2.2.1) (eS .u32 (dx .u32 4294967295 y.1.2.2.2.2.2.2.2.1) y.1.2.2.2.2.2.2.2.2.2.1))))+d))+f)))),y.1.2.2.2.2.2.2.2.1,y.1.2.2.2.2.2.2.2.2.1,y.1.2.2.2.2.2.2.2.2.2.1,(IntKind.i64.wrap (y.1.2.2.2.2.2.2.2.2.2.2.2.1+(1:Int))),()),y.2.1,y.2.2.1,y.2.2.2.1,()))
else
 some (.inr (((),(),y.1.2.2.2.1,y.1.2.2.2.2.1,y.1.2.2.2.2.2.1,y.1.2.2.2.2.2.2.1,y.1.2.2.2.2.2.2.2.1,y.1.2.2.2.2.2.2.2.2.1,y.1.2.2.2.2.2.2.2.2.2.1,y.1.2.2.2.2.2.2.2.2.2.2.1,()),y.2.1,y.2.2.1,()))
noncomputable def Gh:zV.J->Option (aF FU):=bu Ab
theorem afx:aX Z (ap (codeOf Tryz.f250) 1 1018) (bb zV FU Gh):=bW uX (by kernel_rfl) aj fun y=>by kernel_rfl
abbrev zU:Shape:=⟨[eW 2 2 .u32,eW 4 4 .u32,dw 195 [.d (.int .u32),.d (.int .u32),.d (.int .u32),.d (.int .u32),.d (.int .u32),.d (.int .u32),.d (.int .u32),.d (.int .u32)],ad 196],[(2,.row .u32,.same),(4,.row .u32,.same)],208⟩
abbrev FT:List aR:=[(.exit 8,⟨[eW 2 2 .u32,eW 4 4 .u32],[(2,.row .u32,.same),(4,.row .u32,.same)],208⟩)]
noncomputable def QG(y:zU.J):bR zU FT:=
 bif(decide (y.1.2.2.2.1<(8:Int))) then
(aQ ([y.1.2.2.1.1,y.1.2.2.1.2.1,y.1.2.2.1.2.2.1,y.1.2.2.1.2.2.2.1,y.1.2.2.1.2.2.2.2.1,y.1.2.2.1.2.2.2.2.2.1,y.1.2.2.1.2.2.2.2.2.2.1,y.1.2.2.1.2.2.2.2.2.2.2.1]:List Int) y.1.2.2.2.1).bind fun a=>
((long 8 y.2.1).bind fun q=>aU q.length y.1.2.2.2.1).bind fun b=>
(y.2.1[b]?).bind fun c=>
((long 8 y.2.1).bind fun q=>aU q.length y.1.2.2.2.1).bind fun d=>
((y.2.1[d]?).bind fun q=>some (IntKind.u32.wrap (c+a))).bind fun e=>
 some (.inl (((),(),(y.1.2.2.1.1,y.1.2.2.1.2.1,y.1.2.2.1.2.2.1,y.1.2.2.1.2.2.2.1,y.1.2.2.1.2.2.2.2.1,y.1.2.2.1.2.2.2.2.2.1,y.1.2.2.1.2.2.2.2.2.2.1,y.1.2.2.1.2.2.2.2.2.2.2.1,()),(IntKind.i64.wrap (y.1.2.2.2.1+(1:Int))),()),(y.2.1.set d e),y.2.2.1,()))
else
 some (.inr (((),(),()),y.2.1,y.2.2.1,()))
noncomputable def Gg:zU.J->Option (aF FT):=bu QG
theorem afw:aX Z (ap (codeOf Tryz.f250) 1 2042) (bb zU FT Gg):=bW uX (by kernel_rfl) aj fun y=>by kernel_rfl
abbrev i250:Shape:=⟨[dw 0 [.d (.int .u32),.d (.int .u32),.d (.int .u32),.d (.int .u32),.d (.int .u32),.d (.int .u32),.d (.int .u32),.d (.int .u32)],aM 1 .u8],[],208⟩
abbrev V0:Shape:=⟨[eW 4 4 .u32],[(4,.r' .u32 8,.same)],208⟩
noncomputable def f250(a:i250.J):Option V0.J:=
(IQ ((a.1.2.1,(),(),(),(0:Int),()),([a.1.1.1,a.1.1.2.1,a.1.1.2.2.1,a.1.1.2.2.2.1,a.1.1.2.2.2.2.1,a.1.1.2.2.2.2.2.1,a.1.1.2.2.2.2.2.2.1,a.1.1.2.2.2.2.2.2.2.1]:List Int),(List.replicate 8 (0:Int)),(List.replicate 64 (0:Int)),())).bind fun b=>
(He (((),(),(),(16:Int),()),b.2.1,b.2.2.1,b.2.2.2.1,())).bind fun c=>
((long 8 c.2.1).bind fun q=>aU q.length (0:Int)).bind fun d=>
(c.2.1[d]?).bind fun e=>
((long 8 c.2.1).bind fun q=>aU q.length (1:Int)).bind fun f=>
(c.2.1[f]?).bind fun g=>
((long 8 c.2.1).bind fun q=>aU q.length (2:Int)).bind fun h=>
(c.2.1[h]?).bind fun i=>
((long 8 c.2.1).bind fun q=>aU q.length (3:Int)).bind fun j=>
(c.2.1[j]?).bind fun k=>
((long 8 c.2.1).bind fun q=>aU q.length (4:Int)).bind fun l=>
(c.2.1[l]?).bind fun m=>
((long 8 c.2.1).bind fun q=>aU q.length (5:Int)).bind fun n=>
(c.2.1[n]?).bind fun D=>
((long 8 c.2.1).bind fun q=>aU q.length (6:Int)).bind fun p=>
(c.2.1[p]?).bind fun r=>
((long 8 c.2.1).bind fun q=>aU q.length (7:Int)).bind fun s=>
(c.2.1[s]?).bind fun t=>
(Gh (((),(),(),e,g,i,k,m,D,r,t,(0:Int),()),c.2.1,c.2.2.1,c.2.2.2.1,())).bind fun u=>
(Gg (((),(),(u.1.2.2.1,u.1.2.2.2.1,u.1.2.2.2.2.1,u.1.2.2.2.2.2.1,u.1.2.2.2.2.2.2.1,u.1.2.2.2.2.2.2.2.1,u.1.2.2.2.2.2.2.2.2.1,u.1.2.2.2.2.2.2.2.2.2.1,()),(0:Int),()),u.2.1,u.2.2.1,())).bind fun v=>
(long 8 v.2.1).bind fun w=>
(long 8 v.2.2.1).bind fun x=>
((long 8 ([(w.getD 0 (0:Int)),(w.getD 1 (0:Int)),(w.getD 2 (0:Int)),(w.getD 3 (0:Int)),(w.getD 4 (0:Int)),(w.getD 5 (0:Int)),(w.getD 6 (0:Int)),(w.getD 7 (0:Int))]:List Int)).bind fun q=>some (q,())).bind fun z=>some (((),()),z)
noncomputable def XW:aK:=a6 ak Tryz.f250 i250 V0 [] f250
theorem anR:aL Z 250 XW:=ba uX Tryz.func250 (by kernel_rfl) (bd ai8 (bd ahp (bd afx (bd afw aj)))) (fun y=>by kernel_rfl) fun a=>by kernel_rfl
def gO(ws:List Int)(v:Int):List Int:=ws++v::List.replicate (63-ws.length) 0
def k4(ws:List Int):List Int:=ws++List.replicate (64-ws.length) 0
theorem Vb{ws:List Int}(h:ws.length<64):k4 ws=gO ws 0:=by
 unfold k4 gO;rw[show 64-ws.length=(63-ws.length)+1 by omega];rfl
theorem UE{ws:List Int}(h:ws.length<64)(v:Int):gO ws v=k4 (ws++[v]):=by
 unfold k4 gO;rw[List.length_append,show 64-(ws.length+[v].length)=63-ws.length from by show 64-(ws.length+1)=_;omega,List.append_assoc]
 rfl
theorem Te{ws:List Int}(h:ws.length<64)(v:Int):(gO ws v).length=64:=by unfold gO;simp;omega
theorem Bz{aB:Type}{n:Nat}{xs:List aB}(h:xs.length=n):long n xs=some xs:=by unfold long;rw[if_pos h]
theorem Tf{ws:List Int}(h:ws.length<64)(v:Int){k:Nat}(hk:k<64):((long 64 (gO ws v)).bind fun q=>aU q.length (k:Int))=some k:=by
 rw[Bz (Te h v)];exact gg (by rw[Te h];exact hk)
theorem w4(ws:List Int)(v:Int):(gO ws v)[ws.length]? =some v:=by unfold gO;rw[List.getElem?_append_right (Nat.le_refl _)];simp
theorem B'{ws:List Int}{v:Int}{k:Nat}(h:k<ws.length):(gO ws v)[k]? =some (gb ws k):=by
 unfold gO;rw[List.getElem?_append_left h];exact mV h
theorem w3(ws:List Int)(v u:Int):(gO ws v).set ws.length u=gO ws u:=by unfold gO;rw[List.set_append_right _ _ (Nat.le_refl _)];simp
theorem amD(b:List Int):∀(ws:List Int) (i:Nat) (c0 c1 c2 c3:Int) (r0 r1:List Int),ws.length=i->i<64->
  FD ((b,((),((),((),((i:Int),((i:Int),(([c0,c1,c2,c3]:List Int),((([c0,c1,c2,c3]:List Int).length:Int),((0:Int),()))))))))),(r0,(r1,(gO ws 0,()))))=
  some ((b,((),((),((),((i:Int),()))))),(r0,(r1,(gO ws (h6 (h6 (h6 (h6 0 c0) c1) c2) c3),())))):=by
 intro ws i c0 c1 c2 c3 r0 r1 hw hi;subst hw;refine gC (g:=re) (fun j=>((b,((),((),((),((ws.length:Int),((ws.length:Int),(([c0,c1,c2,c3]:List Int),((([c0,c1,c2,c3]:List Int).length:Int),((j:Int),()))))))))),
  (r0,(r1,(gO ws (match j with|0=>0|1=>h6 0 c0|2=>h6 (h6 0 c0) c1|3=>h6 (h6 (h6 0 c0) c1) c2|_=>h6 (h6 (h6 (h6 0 c0) c1) c2) c3),()))))) 4 (fun j hj=>?_) ?_ 4 0 rfl
 ·have hx:∀v:Int,((long 64 (gO ws v)).bind fun q=>aU q.length (ws.length:Int))=some ws.length:=fun v=>Tf hi v hi
  have:j=0\/j=1\/j=2\/j=3:=by omega
  have n0:IntKind.i64.wrap (((0:Nat):Int)+1)=((0+1:Nat):Int):=rfl;have n1:IntKind.i64.wrap (((1:Nat):Int)+1)=((1+1:Nat):Int):=rfl;have n2:IntKind.i64.wrap (((2:Nat):Int)+1)=((2+1:Nat):Int):=rfl;have e0:IntKind.i64.wrap (((3:Nat):Int)+1)=((3+1:Nat):Int):=rfl;have c:∀k:Nat,k<4->decide (((k:Nat):Int)<(([c0,c1,c2,c3]:List Int).length:Int))=true:=fun k hk=>by simp;omega
  have fG:aQ ([c0,c1,c2,c3]:List Int) ((0:Nat):Int)=some c0:=rfl;have eD:aQ ([c0,c1,c2,c3]:List Int) ((1:Nat):Int)=some c1:=rfl;have fy:aQ ([c0,c1,c2,c3]:List Int) ((2:Nat):Int)=some c2:=rfl;have j7:aQ ([c0,c1,c2,c3]:List Int) ((3:Nat):Int)=some c3:=rfl;rcases this with rfl|rfl|rfl|rfl
  ·simp only[re,c 0 (by omega),cond_true,hx,w4,w3,Option.bind_some,xH,n0,fG];rfl
  ·simp only[re,c 1 (by omega),cond_true,hx,w4,w3,Option.bind_some,xH,n1,eD];rfl
  ·simp only[re,c 2 (by omega),cond_true,hx,w4,w3,Option.bind_some,xH,n2,fy];rfl
  ·simp only[re,c 3 (by omega),cond_true,hx,w4,w3,Option.bind_some,xH,e0,j7];rfl
 ·have:decide (((4:Nat):Int)<(([c0,c1,c2,c3]:List Int).length:Int))=false:=rfl;simp only[re,this,cond_false]
theorem amH(b:List Int)(hb:sP b):∀r0 r1:List Int,IQ ((b,((),((),((),((0:Int),()))))),(r0,(r1,(List.replicate 64 (0:Int),()))))=some (((),((),((),()))),(r0,(r1,(k4 (cv b 16),())))):=by
 intro r0 r1;refine gC (g:=Jc) (fun i=>((b,((),((),((),((i:Int),()))))),(r0,(r1,(k4 (cv b i),()))))) 16 (fun i hi=>?_) rfl 16 0 rfl
 have hl:decide ((i:Int)<16)=true:=by simp;omega
 have hlen:=oX b i;have Y:decide (i<16)=true:=by simpa using hi
 have kB:IntKind.i64.wrap (((4*i:Nat):Int)+4)=((4*i+4:Nat):Int):=by have:=pP (i:=i) (by omega) 4 (by omega);rwa[u5 (by omega)] at this
 have hs:bD b ((4*i:Nat):Int) ((4*i+4:Nat):Int)=some [gb b (4*i),gb b (4*i+1),gb b (4*i+2),gb b (4*i+3)]:=by
  rw[rq (by omega) (by rw[hb.1];omega)]
  congr 1
  apply List.ext_getElem?;intro j;rw[List.getElem?_drop,List.getElem?_take];by_cases hj:j<4
  ·rw[if_pos (by omega),mV (by rw[hb.1];omega)]
   have:j=0\/j=1\/j=2\/j=3:=by omega
   rcases this with rfl|rfl|rfl|rfl<;>rfl
  ·rw[if_neg (by omega)]
   rw[List.getElem?_eq_none (by simp;omega)]
 have hw:=aiF (hb.qZ (j:=4*i) (by omega)) (hb.qZ (j:=4*i+1) (by omega)) (hb.qZ (j:=4*i+2) (by omega)) (hb.qZ (j:=4*i+3) (by omega))
 have Ev:=amD b (cv b i) i (gb b (4*i)) (gb b (4*i+1)) (gb b (4*i+2)) (gb b (4*i+3)) r0 r1 hlen (by omega)
 rw[hw] at Ev;have hf:=Vb (ws:=cv b i) (by omega)
 have hn:k4 (cv b (i+1))=gO (cv b i) (wd (gb b (4*i)) (gb b (4*i+1)) (gb b (4*i+2)) (gb b (4*i+3))):=by rw[UE (by omega)];simp only[cv,Y,cond_true]
 simp only[Jc,hl,cond_true,u5 (i:=i) (by omega),kB,hs,Option.bind_some,hf,Ev,hn,wp (i:=i) (by omega)]
theorem amG(b:List Int):∀r0 r1:List Int,He (((),((),((),((16:Int),())))),(r0,(r1,(k4 (cv b 16),()))))=some (((),((),((),()))),(r0,(r1,(k4 (cv b 64),())))):=by
 have t2:=fun x=>iu x 2 (by simp[e_]);have t6:=fun x=>iu x 6 (by simp[e_]);have t11:=fun x=>iu x 11 (by simp[e_])
 have t13:=fun x=>iu x 13 (by simp[e_]);have t22:=fun x=>iu x 22 (by simp[e_]);have t25:=fun x=>iu x 25 (by simp[e_])
 have t7:=fun x=>iu x 7 (by simp[e_]);have t18:=fun x=>iu x 18 (by simp[e_]);have t17:=fun x=>iu x 17 (by simp[e_]);have t19:=fun x=>iu x 19 (by simp[e_])
 intro r0 r1;refine gC (g:=HD) (fun i=>(((),((),((),(((16+i:Nat):Int),())))),(r0,(r1,(k4 (cv b (16+i)),()))))) 48 (fun i hi=>?_) rfl 48 0 rfl
 have hl:decide (((16+i:Nat):Int)<64)=true:=by simp;omega
 have hlen:=oX b (16+i);have Y:decide (16+i<16)=false:=by simp
 have hf:=Vb (ws:=cv b (16+i)) (by omega)
 have hs:k4 (cv b (16+(i+1)))=gO (cv b (16+i)) (xL (cv b (16+i)) (16+i)):=by
  show k4 (cv b ((16+i)+1))=_;rw[UE (by omega)];simp only[cv,Y,cond_false]
 have auz:=q5 (i:=16+i) (q:=15) 15 rfl (by omega) (by omega)
 have e2:=q5 (i:=16+i) (q:=2) 2 rfl (by omega) (by omega)
 have auy:=q5 (i:=16+i) (q:=16) 16 rfl (by omega) (by omega)
 have zc:=q5 (i:=16+i) (q:=7) 7 rfl (by omega) (by omega)
 have hx:∀k:Nat,k<64->((long 64 (gO (cv b (16+i)) 0)).bind fun q=>aU q.length (k:Int))=some k:=fun k hk=>Tf (by omega) _ hk
 have g15:=B' (ws:=cv b (16+i)) (v:=0) (k:=16+i-15) (by omega)
 have g2:=B' (ws:=cv b (16+i)) (v:=0) (k:=16+i-2) (by omega)
 have g16:=B' (ws:=cv b (16+i)) (v:=0) (k:=16+i-16) (by omega)
 have g7:=B' (ws:=cv b (16+i)) (v:=0) (k:=16+i-7) (by omega)
 have lP:(gO (cv b (16+i)) 0)[16+i]? =some 0:=by have:=w4 (cv b (16+i)) 0;rwa[hlen] at this
 have gs:∀u,(gO (cv b (16+i)) 0).set (16+i) u=gO (cv b (16+i)) u:=fun u=>by have:=w3 (cv b (16+i)) 0 u;rwa[hlen] at this
 simp only[HD,hl,cond_true,hf,auz,e2,auy,zc,hx (16+i-15) (by omega),hx (16+i-2) (by omega),hx (16+i-16) (by omega),hx (16+i-7) (by omega),hx (16+i) (by omega),g15,g2,g16,g7,lP,gs,Option.bind_some,t7,t18,t17,t19,VC,UI,wp (i:=16+i) (by omega),hs,xL,L6,L5]
 rfl
theorem amF(R:Nat->ct)(W:List Int)(hW:W.length=64)(hR:∀i,R (i+1)=xI (gb jj i) (gb W i) (R i))(r0 r1:List Int):Gh (((),((),((),((R 0).a,((R 0).b,((R 0).c,((R 0).d,((R 0).e,((R 0).f,((R 0).g,((R 0).h,((0:Int),())))))))))))),(r0,(r1,(W,()))))=
  some (((),((),((R 64).a,((R 64).b,((R 64).c,((R 64).d,((R 64).e,((R 64).f,((R 64).g,((R 64).h,())))))))))),(r0,(r1,()))):=by
 have t2:=fun x=>iu x 2 (by simp[e_]);have t6:=fun x=>iu x 6 (by simp[e_]);have t11:=fun x=>iu x 11 (by simp[e_])
 have t13:=fun x=>iu x 13 (by simp[e_]);have t22:=fun x=>iu x 22 (by simp[e_]);have t25:=fun x=>iu x 25 (by simp[e_])
 have t7:=fun x=>iu x 7 (by simp[e_]);have t18:=fun x=>iu x 18 (by simp[e_]);have t17:=fun x=>iu x 17 (by simp[e_]);have t19:=fun x=>iu x 19 (by simp[e_])
 refine gC (g:=Ab) (fun i=>(((),((),((),((R i).a,((R i).b,((R i).c,((R i).d,((R i).e,((R i).f,((R i).g,((R i).h,((i:Int),())))))))))))),(r0,(r1,(W,()))))) 64 (fun i hi=>?_) ?_ 64 0 rfl
 ·have hl:decide ((i:Int)<64)=true:=by simp;omega
  have g1:=xv (b:=jj) (j:=i) (by rw[Iy];exact hi)
  have hx:((long 64 W).bind fun q=>aU q.length (i:Int))=some i:=by rw[Bz hW];exact gg (by rw[hW];exact hi)
  have g2:=mV (b:=W) (j:=i) (by rw[hW];exact hi)
  rw[hR i];generalize R i=s;simp only[Ab,hl,cond_true,g1,hx,g2,Option.bind_some,t2,t6,t11,t13,t22,t25,wp (i:=i) (by omega),xI,D7,M4,M5,M3,Ma]
 ·have:decide (((64:Nat):Int)<64)=false:=rfl;simp only[Ab,this,cond_false]
theorem amE(h:ct):∀(s:ct) (r1:List Int),Gg (((),((),((s.a,(s.b,(s.c,(s.d,(s.e,(s.f,(s.g,(s.h,())))))))),((0:Int),())))),(h.list,(r1,())))=some (((),((),())),((DO h s).list,(r1,()))):=by
 intro s r1;refine gC (g:=QG) (fun i=>(((),((),((s.a,(s.b,(s.c,(s.d,(s.e,(s.f,(s.g,(s.h,())))))))),((i:Int),())))),((DO h s).list.take i++h.list.drop i,(r1,())))) 8 (fun i hi=>?_) rfl 8 0 rfl
 have:i=0\/i=1\/i=2\/i=3\/i=4\/i=5\/i=6\/i=7:=by omega
 rcases this with rfl|rfl|rfl|rfl|rfl|rfl|rfl|rfl<;>(show _=_;kernel_rfl)
theorem adu(h:ct)(b:List Int)(hb:sP b):f250 (((h.a,(h.b,(h.c,(h.d,(h.e,(h.f,(h.g,(h.h,())))))))),(b,())),())=some (((),()),((x2 h b).list,())):=by
 have aw:=amH b hb;have an:=amG b;have mA:k4 (cv b 64)=cv b 64:=by unfold k4;rw[oX];simp
 have bo:=amF (np h (cv b 64)) (cv b 64) (oX b 64) (fun _=>rfl)
 have e1:(np h (cv b 64) 0)=h:=rfl;rw[e1] at bo;have cl:=amE h;have dQ:∀s:ct,s.list.length=8:=fun s=>rfl
 have hx:∀k:Nat,k<8->((long 8 h.list).bind fun q=>aU q.length (k:Int))=some k:=fun k hk=>by rw[Bz (dQ h)];exact gg (by rw[dQ];exact hk)
 have z0:=hx 0 (by omega);have ga:=hx 1 (by omega);have z2:=hx 2 (by omega);have z3:=hx 3 (by omega)
 have z4:=hx 4 (by omega);have z5:=hx 5 (by omega);have aas:=hx 6 (by omega);have EP:=hx 7 (by omega)
 have fc:([h.a,h.b,h.c,h.d,h.e,h.f,h.g,h.h]:List Int)=h.list:=rfl;have dE:h.list[0]? =some h.a:=rfl;have eV:h.list[1]? =some h.b:=rfl;have d':h.list[2]? =some h.c:=rfl;have nK:h.list[3]? =some h.d:=rfl;have Np:h.list[4]? =some h.e:=rfl;have y2:h.list[5]? =some h.f:=rfl;have No:h.list[6]? =some h.g:=rfl;have Nn:h.list[7]? =some h.h:=rfl;simp only[Int.cast_ofNat_Int,Int.natCast_zero] at z0 ga z2 z3 z4 z5 aas EP;simp only[f250,fc,aw,an,mA,Option.bind_some,z0,ga,z2,z3,z4,z5,aas,EP,dE,eV,d',nK,Np,y2,No,Nn,bo,cl];rw[Bz (dQ _)];rfl
abbrev A2:Shape:=⟨[aq 0,a' 3 3000192],[bg 3000192 .u8 3 0],33⟩
abbrev H1:List aR:=[(.exit 0,⟨[aq 0,a' 3 3000192],[bg 3000192 .u8 3 0],33⟩)]
noncomputable def BH(y:A2.J):bR A2 H1:=
(lr (y.2.1.length:Int) (64:Int)).bind fun a=>
 bif(a !=(56:Int)) then
(cw 1 y.2.1 ([(0:Int)]:List Int)).bind fun b=>
 some (.inl ((y.1.1,(),()),b,()))
else
 some (.inr ((y.1.1,(),()),y.2.1,()))
noncomputable def IK:A2.J->Option (aF H1):=bu BH
theorem ai3:aX Z (ap (codeOf Tryz.f269) 1 28) (bb A2 H1 IK):=bW g0 (by kernel_rfl) aj fun y=>by kernel_rfl
abbrev Av:Shape:=⟨[a' 3 3000192,ad 4,ad 5],[bg 3000192 .u8 3 0],33⟩
abbrev GN:List aR:=[(.exit 2,⟨[a' 3 3000192],[bg 3000192 .u8 3 0],33⟩)]
noncomputable def HB(y:Av.J):bR Av GN:=
 bif(decide (y.1.2.2.1>=(0:Int))) then
(fM .i64 y.1.2.1 (IntKind.i64.wrap ((8:Int)*y.1.2.2.1))).bind fun a=>
(cw 1 y.2.1 ([(IntKind.u8.wrap a)]:List Int)).bind fun b=>
 some (.inl (((),y.1.2.1,(IntKind.i64.wrap (y.1.2.2.1-(1:Int))),()),b,()))
else
 some (.inr (((),()),y.2.1,()))
noncomputable def Hd:Av.J->Option (aF GN):=bu HB
theorem ahn:aX Z (ap (codeOf Tryz.f269) 1 250) (bb Av GN Hd):=bW g0 (by kernel_rfl) aj fun y=>by kernel_rfl
abbrev i269:Shape:=⟨[aq 0],[],33⟩
abbrev VU:Shape:=⟨[a' 2 3000128],[bg 3000128 .u8 2 0],33⟩
noncomputable def f269(a:i269.J):Option VU.J:=
(if a.1.1.length<=maxLen then some () else none).bind fun b=>
(cw 1 (bytesOf a.1.1) ([(128:Int)]:List Int)).bind fun c=>
(IK ((a.1.1,(),()),c,())).bind fun d=>
(Hd (((),(IntKind.i64.wrap ((d.1.1.length:Int)*(8:Int))),(7:Int),()),d.2.1,())).bind fun e=>
 some (((),()),e.2.1,())
noncomputable def XQ:aK:=a6 ak Tryz.f269 i269 VU [] f269
theorem anL:aL Z 269 XQ:=ba g0 Tryz.func269 (by kernel_rfl) (bd ai3 (bd ahn aj)) (fun y=>by kernel_rfl) fun a=>by kernel_rfl
noncomputable abbrev aqq:bl:=[(269,XQ),(270,XP)]
theorem LO:bc Z (bi ak aqq):=bj ⟨anL,anK,⟨⟩⟩
abbrev Az:Shape:=⟨[a' 3 3000192,aM 4 .u8,ad 5],[bg 3000192 .u32 3 0],57⟩
abbrev GR:List aR:=[(.exit 0,⟨[a' 3 3000192],[bg 3000192 .u32 3 0],57⟩)]
noncomputable def AP(y:Az.J):bR Az GR:=
 bif(decide (y.1.2.2.1<(y.1.2.1.length:Int))) then
(bD y.1.2.1 y.1.2.2.1 (IntKind.i64.wrap (y.1.2.2.1+(64:Int)))).bind fun a=>
(f270 ((y.2.1,a,()),())).bind fun b=>
 some (.inl (((),y.1.2.1,(IntKind.i64.wrap (y.1.2.2.1+(64:Int))),()),b.2.1,()))
else
 some (.inr (((),()),y.2.1,()))
noncomputable def Hh:Az.J->Option (aF GR):=bu AP
theorem ahs:aX Z (ap (codeOf Tryz.f237) 1 122) (bb Az GR Hh):=bW LO (by kernel_rfl) aj fun y=>by kernel_rfl
abbrev Ay:Shape:=⟨[a' 3 3000192,a' 6 3000384,ad 7],[bg 3000192 .u32 3 0,bg 3000384 .u8 6 0],57⟩
abbrev GQ:List aR:=[(.exit 2,⟨[a' 6 3000384],[bg 3000384 .u8 6 0],57⟩)]
noncomputable def RO(y:Ay.J):bR Ay GQ:=
 bif(decide (y.1.2.2.1<(8:Int))) then
(aU y.2.1.length y.1.2.2.1).bind fun a=>
(y.2.1[a]?).bind fun b=>
(fM .u32 b (24:Int)).bind fun c=>
(aU y.2.1.length y.1.2.2.1).bind fun d=>
(y.2.1[d]?).bind fun e=>
(fM .u32 e (16:Int)).bind fun f=>
(aU y.2.1.length y.1.2.2.1).bind fun g=>
(y.2.1[g]?).bind fun h=>
(fM .u32 h (8:Int)).bind fun i=>
(aU y.2.1.length y.1.2.2.1).bind fun j=>
(y.2.1[j]?).bind fun k=>
(cw 1 y.2.2.1 ([(IntKind.u8.wrap c),(IntKind.u8.wrap f),(IntKind.u8.wrap i),(IntKind.u8.wrap k)]:List Int)).bind fun l=>
 some (.inl (((),(),(IntKind.i64.wrap (y.1.2.2.1+(1:Int))),()),y.2.1,l,()))
else
 some (.inr (((),()),y.2.2.1,()))
noncomputable def Hg:Ay.J->Option (aF GQ):=bu RO
theorem ahr:aX Z (ap (codeOf Tryz.f237) 1 506) (bb Ay GQ Hg):=bW LO (by kernel_rfl) aj fun y=>by kernel_rfl
abbrev i237:Shape:=⟨[aq 0],[],57⟩
abbrev V9:Shape:=⟨[aq 2],[],57⟩
noncomputable def f237(a:i237.J):Option V9.J:=
(f269 ((a.1.1,()),())).bind fun b=>
(Hh (((),b.2.1,(0:Int),()),([(1779033703:Int),(3144134277:Int),(1013904242:Int),(2773480762:Int),(1359893119:Int),(2600822924:Int),(528734635:Int),(1541459225:Int)]:List Int),())).bind fun c=>
(Hg (((),(),(0:Int),()),c.2.1,([]:List Int),())).bind fun d=>
 some (((strOf d.2.1),()),())
noncomputable def X3:aK:=a6 ak Tryz.f237 i237 V9 [] f237
theorem anY:aL Z 237 X3:=ba LO Tryz.func237 (by kernel_rfl) (bd ahs (bd ahr aj)) (fun y=>by kernel_rfl) fun a=>by kernel_rfl
def kX(n:Nat):Nat:=(120-n%64)%64
def kR(n:Int):List Int:=[IntKind.u8.wrap (n.fdiv (2^56)),IntKind.u8.wrap (n.fdiv (2^48)),IntKind.u8.wrap (n.fdiv (2^40)),IntKind.u8.wrap (n.fdiv (2^32)),IntKind.u8.wrap (n.fdiv (2^24)),IntKind.u8.wrap (n.fdiv (2^16)),IntKind.u8.wrap (n.fdiv (2^8)),IntKind.u8.wrap (n.fdiv (2^0))]
def jU(s:F):List Int:=(bytesOf s++[128])++List.replicate (kX (s.length+1)) 0
def eI(s:F):List Int:=jU s++kR ((s.length:Int)*8)
theorem j_(s:F):(bytesOf s).length=s.length:=by simp[bytesOf]
theorem w1(n:Nat):kX n<64:=Nat.mod_lt _ (by decide)
theorem HS(n:Nat):(n+kX n)%64=56:=by unfold kX;omega
theorem R0(n j:Nat)(h:j<kX n):(n+j)%64≠56:=by unfold kX at h;omega
theorem G5(s:F):(jU s).length=s.length+1+kX (s.length+1):=by simp[jU,j_];omega
theorem AI(s:F):(eI s).length=s.length+1+kX (s.length+1)+8:=by simp[eI,G5,kR]
theorem akN(x:Int):k5 (IntKind.u8.wrap x):=by rw[IntKind.wrap_u8];constructor<;>omega
theorem RD(s:F):∀x,x∈eI s->k5 x:=by
 intro x hx;rcases List.mem_append.1 hx with h|h
 ·rcases List.mem_append.1 h with h|h
  ·rcases List.mem_append.1 h with h|h
   ·obtain⟨b,_,rfl⟩:=List.mem_map.1 h;have:=b.toNat_lt;constructor<;>omega
   ·rw[List.mem_singleton.1 h];decide
  ·rw[(List.mem_replicate.1 h).2];decide
 ·simp only[kR,List.mem_cons,List.not_mem_nil,or_false] at h;rcases h with rfl|rfl|rfl|rfl|rfl|rfl|rfl|rfl<;>exact akN _
def sj(d:List Int)(k:Nat):List Int:=(d.take (64*k+64)).drop (64*k)
theorem S_{d:List Int}{k:Nat}(h:64*k+64<=d.length)(hb:∀x,x∈d->k5 x):sP (sj d k):=
 ⟨by unfold sj;simp;omega,fun x hx=>hb x (List.mem_of_mem_take (List.mem_of_mem_drop hx))⟩
def zl:ct:=⟨1779033703,3144134277,1013904242,2773480762,1359893119,2600822924,528734635,1541459225⟩
def vj(d:List Int):Nat->ct
 |0=>zl
 |k+1=>x2 (vj d k) (sj d k)
def ee(s:F):ct:=vj (eI s) ((eI s).length/64)
theorem IB(s:F):64*((eI s).length/64)=(eI s).length:=by
 have:=HS (s.length+1);rw[AI];omega
theorem C2(n:Nat):lr (n:Int) 64=some ((n%64:Nat):Int):=by
 rw[Ct (by omega) (by omega)];simp
theorem RT(n:Nat)(d:List Int):d++List.replicate n 0++[0]=d++List.replicate (n+1) 0:=by
 rw[List.append_assoc,<-List.replicate_succ']
theorem amA{x:Int}{k:Nat}(h:k<=64):fM .i64 x (k:Int)=some (x.fdiv (2^k)):=by
 unfold fM;rw[if_neg (by omega),Int.toNat_natCast,show IntKind.i64.bits=64 from rfl,Nat.min_eq_left h]
theorem akR{x:Int}{k:Nat}(h:k<=64):fM .u64 x (k:Int)=some (x.fdiv (2^k)):=by
 unfold fM;rw[if_neg (by omega),Int.toNat_natCast,show IntKind.u64.bits=64 from rfl,Nat.min_eq_left h]
theorem Qw(n:Int){i:Nat}(h:i<8):(kR n).take (i+1)=(kR n).take i++[IntKind.u8.wrap (n.fdiv (2^(8*(7-i))))]:=by
 have:i=0\/i=1\/i=2\/i=3\/i=4\/i=5\/i=6\/i=7:=by omega
 rcases this with rfl|rfl|rfl|rfl|rfl|rfl|rfl|rfl<;>rfl
abbrev q7(s:F):Prop:=s.length<=1073741824
theorem ady(s:F)(h:q7 s):f269 ((s,()),())=some (((),()),(eI s,())):=by
 have hm:(if s.length<=maxLen then some () else none)=some ():=if_pos (by unfold maxLen;omega)
 have ha:cw 1 (bytesOf s) ([128]:List Int)=some (bytesOf s++[128]):=ew (by decide) (by unfold am;rw[j_];simp;omega)
 have aw:IK ((s,((),())),(bytesOf s++[128],()))=some ((s,((),())),(jU s,())):=by
  have hz:=w1 (s.length+1);have sF:∀i:Nat,(bytesOf s++[128]++List.replicate i (0:Int)).length=s.length+1+i:=fun i=>by simp[j_];omega
  have:=gC (g:=BH) (fun i=>((s,((),())),(bytesOf s++[128]++List.replicate i (0:Int),()))) (kX (s.length+1)) (b:=((s,((),())),(jU s,()))) (fun i hi=>?_) ?_ (kX (s.length+1)) 0 (by omega)
  ·rw[List.replicate_zero,List.append_nil] at this;exact this
  ·have hne:((((s.length+1+i)%64:Nat):Int) !=56)=true:=by have:=R0 (s.length+1) i hi;rw[bne_iff_ne];omega
   simp only[BH,sF,C2,Option.bind_some,hne,cond_true];rw[ew (by decide) (by unfold am;rw[sF];simp;omega)]
   simp only[Option.bind_some,RT]
  ·have hne:((((s.length+1+kX (s.length+1))%64:Nat):Int) !=56)=false:=by have:=HS (s.length+1);rw[this];rfl
   simp only[BH,sF,C2,Option.bind_some,hne,cond_false];rfl
 have an:∀n:Int,Hd (((),(n,((7:Int),()))),(jU s,()))=some (((),()),(jU s++kR n,())):=by
  intro n;have:=gC (g:=HB) (fun i=>(((),(n,((7-(i:Int)),()))),(jU s++(kR n).take i,()))) 8 (b:=(((),()),(jU s++kR n,()))) (fun i hi=>?_) rfl 8 0 rfl
  ·rw[show(7:Int)-((0:Nat):Int)=7 from rfl,List.take_zero,List.append_nil] at this;exact this
  ·have hl:decide ((7-(i:Int))>=0)=true:=by simp;omega
   have hw:IntKind.i64.wrap (8*(7-(i:Int)))=((8*(7-i):Nat):Int):=by rw[c' (by omega) (by omega)];omega
   have hs:IntKind.i64.wrap (7-(i:Int)-1)=7-((i+1:Nat):Int):=by rw[c' (by omega) (by omega)];omega
   simp only[HB,hl,cond_true,hw,amA (x:=n) (k:=8*(7-i)) (by omega),Option.bind_some,hs]
   rw[ew (by decide) (by unfold am;simp[G5,kR];have:=w1 (s.length+1);omega)]
   simp only[Option.bind_some,List.append_assoc,Qw n hi]
 have hn:IntKind.i64.wrap ((s.length:Int)*8)=(s.length:Int)*8:=c' (by omega) (by omega)
 simp only[f269,hm,ha,Option.bind_some,aw,hn,an];rfl
theorem aiJ(s:F)(h:q7 s):f237 ((s,()),())=some ((strOf ((ee s).list.flatMap fun w=>[IntKind.u8.wrap (w.fdiv (2^24)),IntKind.u8.wrap (w.fdiv (2^16)),IntKind.u8.wrap (w.fdiv (2^8)),IntKind.u8.wrap w]),()),()):=by
 have dQ:=IB s;have hlen:=AI s;have hz:=w1 (s.length+1);have kv:=RD s;have aw:Hh (((),(eI s,((0:Int),()))),(zl.list,()))=some (((),()),((ee s).list,())):=by
  refine gC (g:=AP) (fun k=>(((),(eI s,(((64*k:Nat):Int),()))),((vj (eI s) k).list,()))) ((eI s).length/64) (fun k hk=>?_) ?_ ((eI s).length/64) 0 (by omega)
  ·have hk2:64*k+64<=(eI s).length:=by omega
   have hl:decide (((64*k:Nat):Int)<((eI s).length:Int))=true:=by simp;omega
   have hw:IntKind.i64.wrap (((64*k:Nat):Int)+64)=((64*k+64:Nat):Int):=by rw[c' (by omega) (by omega)];omega
   have hs:bD (eI s) ((64*k:Nat):Int) ((64*k+64:Nat):Int)=some (sj (eI s) k):=rq (by omega) hk2
   have hb:=aeT (vj (eI s) k) (sj (eI s) k) (S_ hk2 kv);simp only[AP,hl,cond_true,hw,hs,Option.bind_some,hb];rfl
  ·have hl:decide (((64*((eI s).length/64):Nat):Int)<((eI s).length:Int))=false:=by simp;omega
   simp only[AP,hl,cond_false];rfl
 have an:∀q:ct,Hg (((),((),((0:Int),()))),(q.list,(([]:List Int),())))=some (((),()),((q.list.flatMap fun w=>[IntKind.u8.wrap (w.fdiv (2^24)),IntKind.u8.wrap (w.fdiv (2^16)),IntKind.u8.wrap (w.fdiv (2^8)),IntKind.u8.wrap w]),())):=by
  intro q;refine gC (g:=RO) (fun i=>(((),((),((i:Int),()))),(q.list,((q.list.take i).flatMap fun w=>[IntKind.u8.wrap (w.fdiv (2^24)),IntKind.u8.wrap (w.fdiv (2^16)),IntKind.u8.wrap (w.fdiv (2^8)),IntKind.u8.wrap w],())))) 8 (fun i hi=>?_) rfl 8 0 rfl
  have:i=0\/i=1\/i=2\/i=3\/i=4\/i=5\/i=6\/i=7:=by omega
  rcases this with rfl|rfl|rfl|rfl|rfl|rfl|rfl|rfl<;>(show _=_;kernel_rfl)
 have mG:=ady s h;have fc:([1779033703,3144134277,1013904242,2773480762,1359893119,2600822924,528734635,1541459225]:List Int)=zl.list:=rfl;simp only[f237,mG,Option.bind_some,fc,aw,an]
abbrev AA:Shape:=⟨[aq 0,aq 3,a' 4 3000256,ad 5],[bg 3000256 .u8 4 0],30⟩
abbrev GS:List aR:=[(.exit 0,⟨[a' 4 3000256],[bg 3000256 .u8 4 0],30⟩)]
noncomputable def AQ(y:AA.J):bR AA GS:=
 bif(decide (y.1.2.2.2.1<(y.1.1.length:Int))) then
(aQ y.1.1 y.1.2.2.2.1).bind fun a=>
(nc .u8 (a.toNat:Int) (16:Int)).bind fun b=>
(aQ y.1.2.1 b).bind fun c=>
(aQ y.1.1 y.1.2.2.2.1).bind fun d=>
(lr (d.toNat:Int) (16:Int)).bind fun e=>
(aQ y.1.2.1 e).bind fun f=>
(cw 1 y.2.1 ([(c.toNat:Int),(f.toNat:Int)]:List Int)).bind fun g=>
 some (.inl ((y.1.1,y.1.2.1,(),(IntKind.i64.wrap (y.1.2.2.2.1+(1:Int))),()),g,()))
else
 some (.inr (((),()),y.2.1,()))
noncomputable def Hi:AA.J->Option (aF GS):=bu AQ
theorem aht:aX Z (ap (codeOf Tryz.f236) 1 122) (bb AA GS Hi):=bW g0 (by kernel_rfl) aj fun y=>by kernel_rfl
abbrev i236:Shape:=⟨[aq 0],[],30⟩
abbrev V_:Shape:=⟨[aq 2],[],30⟩
noncomputable def f236(a:i236.J):Option V_.J:=
(Hi ((a.1.1,([48,49,50,51,52,53,54,55,56,57,97,98,99,100,101,102]:F),(),(0:Int),()),([]:List Int),())).bind fun b=>
 some (((strOf b.2.1),()),())
noncomputable def X4:aK:=a6 ak Tryz.f236 i236 V_ [] f236
theorem z236:aL Z 236 X4:=ba g0 Tryz.func236 (by kernel_rfl) (bd aht aj) (fun y=>by kernel_rfl) fun a=>by kernel_rfl
noncomputable abbrev aqH:bl:=[(236,X4),(237,X3)]
theorem arD:bc Z (bi ak aqH):=bj ⟨z236,anY,⟨⟩⟩
abbrev i202:Shape:=⟨[aq 0],[],7⟩
abbrev Wr:Shape:=⟨[aq 2],[],7⟩
noncomputable def f202(a:i202.J):Option Wr.J:=
(f237 ((a.1.1,()),())).bind fun b=>
(f236 ((b.1.1,()),())).bind fun c=>
(bD c.1.1 (0:Int) (16:Int)).bind fun d=>
 some ((d,()),())
noncomputable def Yk:aK:=a6 ak Tryz.f202 i202 Wr [] f202
theorem an8:aL Z 202 Yk:=ba arD Tryz.func202 (by kernel_rfl) aj (fun y=>by kernel_rfl) fun a=>by kernel_rfl
abbrev TZ:Shape:=⟨[a8 0 500000 0,(1,.ag (.d (.int .u8)))],[bI 37000001 .u8 500000 1,a7 500000 [.dH,.own 37000001]],17⟩
abbrev TF:Shape:=⟨[a8 0 500000 0,(4,.ag (.Dz))],[bI 37000001 .u8 500000 1,a7 500000 [.dH,.own 37000001]],17⟩
noncomputable def J9(a:TZ.J):Option TF.J:=
(cw 1 a.2.1 ([a.1.2.1]:List Int)).bind fun b=>
 some (((),(),()),b,((),(),()),())
noncomputable def Ul:aK:=a6 ak Tryz.f251 TZ TF [0] J9
theorem akw:aL Z 251 Ul:=ba g0 Tryz.func251 (by kernel_rfl) aj (fun y=>by kernel_rfl) fun a=>by kernel_rfl
noncomputable abbrev aqA:bl:=[(250,XW),(251,Ul)]
theorem uY:bc Z (bi ak aqA):=bj ⟨anR,akw,⟨⟩⟩
abbrev Bb:Shape:=⟨[aq 0,eW 3 3 .u32,a' 4 3000256],[(3,.row .u32,.same),bg 3000256 .u8 4 0],70⟩
abbrev H':List aR:=[(.exit 0,⟨[aq 0,eW 3 3 .u32,a' 4 3000256],[(3,.row .u32,.same),bg 3000256 .u8 4 0],70⟩)]
noncomputable def BO(y:Bb.J):bR Bb H':=
(lr (y.2.2.1.length:Int) (64:Int)).bind fun a=>
 bif(a !=(56:Int)) then
(cw 1 y.2.2.1 ([(0:Int)]:List Int)).bind fun b=>
 some (.inl ((y.1.1,(),(),()),y.2.1,b,()))
else
 some (.inr ((y.1.1,(),(),()),y.2.1,y.2.2.1,()))
noncomputable def IU:Bb.J->Option (aF H'):=bu BO
theorem ajf:aX Z (ap (codeOf Tryz.f209) 1 60) (bb Bb H' IU):=bW uY (by kernel_rfl) aj fun y=>by kernel_rfl
abbrev AB:Shape:=⟨[eW 3 3 .u32,a' 4 3000256,(5,.ag (.d (.int .u64))),ad 6],[(3,.row .u32,.same),bg 3000256 .u8 4 0],70⟩
abbrev GU:List aR:=[(.exit 2,⟨[eW 3 3 .u32,a' 4 3000256],[(3,.row .u32,.same),bg 3000256 .u8 4 0],70⟩)]
noncomputable def HE(y:AB.J):bR AB GU:=
 bif(decide (y.1.2.2.2.1>=(0:Int))) then
(fM .u64 y.1.2.2.1 y.1.2.2.2.1).bind fun a=>
(cw 1 y.2.2.1 ([(IntKind.u8.wrap a)]:List Int)).bind fun b=>
 some (.inl (((),(),y.1.2.2.1,(IntKind.i64.wrap (y.1.2.2.2.1-(8:Int))),()),y.2.1,b,()))
else
 some (.inr (((),(),()),y.2.1,y.2.2.1,()))
noncomputable def Hj:AB.J->Option (aF GU):=bu HE
theorem ahu:aX Z (ap (codeOf Tryz.f209) 1 506) (bb AB GU Hj):=bW uY (by kernel_rfl) aj fun y=>by kernel_rfl
abbrev zY:Shape:=⟨[eW 3 3 .u32,aM 4 .u8,ad 7],[(3,.row .u32,.same)],70⟩
abbrev FX:List aR:=[(.exit 4,⟨[eW 3 3 .u32],[(3,.row .u32,.same)],70⟩)]
noncomputable def Ad(y:zY.J):bR zY FX:=
 bif(decide (y.1.2.2.1<(y.1.2.1.length:Int))) then
(long 8 y.2.1).bind fun a=>
(bD y.1.2.1 y.1.2.2.1 (IntKind.i64.wrap (y.1.2.2.1+(64:Int)))).bind fun b=>
(f250 ((((a.getD 0 (0:Int)),(a.getD 1 (0:Int)),(a.getD 2 (0:Int)),(a.getD 3 (0:Int)),(a.getD 4 (0:Int)),(a.getD 5 (0:Int)),(a.getD 6 (0:Int)),(a.getD 7 (0:Int)),()),b,()),())).bind fun c=>
(long 8 y.2.1).bind fun d=>
 some (.inl (((),y.1.2.1,(IntKind.i64.wrap (y.1.2.2.1+(64:Int))),()),([((pad (t:=.u32) 8 c.2.1).getD 0 (0:Int)),((pad (t:=.u32) 8 c.2.1).getD 1 (0:Int)),((pad (t:=.u32) 8 c.2.1).getD 2 (0:Int)),((pad (t:=.u32) 8 c.2.1).getD 3 (0:Int)),((pad (t:=.u32) 8 c.2.1).getD 4 (0:Int)),((pad (t:=.u32) 8 c.2.1).getD 5 (0:Int)),((pad (t:=.u32) 8 c.2.1).getD 6 (0:Int)),((pad (t:=.u32) 8 c.2.1).getD 7 (0:Int))]:List Int),()))
else
 some (.inr (((),()),y.2.1,()))
noncomputable def Gj:zY.J->Option (aF FX):=bu Ad
theorem afA:aX Z (ap (codeOf Tryz.f209) 1 1018) (bb zY FX Gj):=bW uY (by kernel_rfl) aj fun y=>by kernel_rfl
abbrev zt:Shape:=⟨[a8 8 8 0,(10,.ag (.d (.int .u32))),ad 11,aM 52 .u32,ad 53,ad 54],[bI 5000513 .u8 8 1,a7 8 [.dH,.own 5000513]],70⟩
abbrev Fg:List aR:=[(.exit 8,⟨[a8 8 8 0,aM 52 .u32,ad 53,ad 54],[bI 5000513 .u8 8 1,a7 8 [.dH,.own 5000513]],70⟩)]
noncomputable def Fk(y:zt.J):bR zt Fg:=
 bif(decide (y.1.2.2.1>=(0:Int))) then
(fM .u32 y.1.2.1 y.1.2.2.1).bind fun a=>
(aQ ([48,49,50,51,52,53,54,55,56,57,97,98,99,100,101,102]:F) (eS .u32 a (15:Int))).bind fun b=>
(J9 (((),(b.toNat:Int),()),y.2.1,((),(),()),())).bind fun c=>
 some (.inl (((),y.1.2.1,(IntKind.i64.wrap (y.1.2.2.1-(4:Int))),y.1.2.2.2.1,y.1.2.2.2.2.1,y.1.2.2.2.2.2.1,()),c.2.1,((),(),()),()))
else
 some (.inr (((),y.1.2.2.2.1,y.1.2.2.2.2.1,y.1.2.2.2.2.2.1,()),y.2.1,((),(),()),()))
noncomputable def Fj:zt.J->Option (aF Fg):=bu Fk
theorem ace:aX Z (ap (di (ap (codeOf Tryz.f209) 1 4090)) 8180 1047142) (bb zt Fg Fj):=bW uY (by kernel_rfl) aj fun y=>by kernel_rfl
abbrev zX:Shape:=⟨[a8 8 8 0,aM 52 .u32,ad 53,ad 54],[bI 5000513 .u8 8 1,a7 8 [.dH,.own 5000513]],70⟩
abbrev FW:List aR:=[(.exit 6,⟨[a8 8 8 0],[bI 5000513 .u8 8 1,a7 8 [.dH,.own 5000513]],70⟩)]
noncomputable def rj(y:zX.J):bR zX FW:=
 bif(decide (y.1.2.2.2.1<y.1.2.2.1)) then
(aQ y.1.2.1 y.1.2.2.2.1).bind fun a=>
(Fj (((),a,(28:Int),y.1.2.1,y.1.2.2.1,y.1.2.2.2.1,()),y.2.1,((),(),()),())).bind fun b=>
 some (.inl (((),b.1.2.1,b.1.2.2.1,(IntKind.i64.wrap (b.1.2.2.2.1+(1:Int))),()),b.2.1,((),(),()),()))
else
 some (.inr (((),()),y.2.1,((),(),()),()))
noncomputable def Gi:zX.J->Option (aF FW):=bu rj
theorem afz:aX Z (ap (codeOf Tryz.f209) 1 4090) (bb zX FW Gi):=bW uY (by kernel_rfl) (bd ace aj) fun y=>by kernel_rfl
abbrev i209:Shape:=⟨[aq 0],[],70⟩
abbrev Wl:Shape:=⟨[aq 2],[],70⟩
noncomputable def f209(a:i209.J):Option Wl.J:=
(long 8 (List.replicate 8 (0:Int))).bind fun b=>
(if a.1.1.length<=maxLen then some () else none).bind fun c=>
(cw 1 (bytesOf a.1.1) ([(128:Int)]:List Int)).bind fun d=>
(IU ((a.1.1,(),(),()),([(1779033703:Int),(3144134277:Int),(1013904242:Int),(2773480762:Int),(1359893119:Int),(2600822924:Int),(528734635:Int),(1541459225:Int)]:List Int),d,())).bind fun e=>
(Hj (((),(),(IntKind.u64.wrap ((IntKind.u64.wrap (e.1.1.length:Int))*(8:Int))),(56:Int),()),e.2.1,e.2.2.1,())).bind fun f=>
(Gj (((),f.2.2.1,(0:Int),()),f.2.1,())).bind fun g=>
((long 8 g.2.1).bind fun q=>bD q (0:Int) (2:Int)).bind fun h=>
(Gi (((),h,(h.length:Int),(0:Int),()),([]:List Int),((),(),()),())).bind fun i=>
 some (((strOf i.2.1),()),())
noncomputable def Ye:aK:=a6 ak Tryz.f209 i209 Wl [] f209
theorem an5:aL Z 209 Ye:=ba uY Tryz.func209 (by kernel_rfl) (bd ajf (bd ahu (bd afA (bd afz aj)))) (fun y=>by kernel_rfl) fun a=>by kernel_rfl
def uT:F:=[48,49,50,51,52,53,54,55,56,57,97,98,99,100,101,102]
def jX(k:Nat):UInt8:=uT.getD k 48
theorem J1{k:Nat}(h:k<16):aQ uT (k:Int)=some (jX k):=by
 rw[cc];unfold jX;rw[List.getD_eq_getElem?_getD,List.getElem?_eq_getElem (by exact h)];rfl
def iQ(b:UInt8):F:=[jX (b.toNat/16),jX (b.toNat%16)]
def gq(w:Int):F:=[jX (w.toNat/268435456%16),jX (w.toNat/16777216%16),jX (w.toNat/1048576%16),jX (w.toNat/65536%16),jX (w.toNat/4096%16),jX (w.toNat/256%16),jX (w.toNat/16%16),jX (w.toNat%16)]
def qB(s:F):F:=gq (ee s).a++gq (ee s).b
theorem zv(s:F):strOf (bytesOf s)=s:=by
 unfold strOf bytesOf;rw[List.map_map];refine List.map_id'' (fun b=>?_) s
 simp
theorem rb(s t:F):bytesOf (s++t)=bytesOf s++bytesOf t:=by unfold bytesOf;rw[List.map_append]
theorem acE(s:F)(h:q7 s):f236 ((s,()),())=some ((s.flatMap iQ,()),()):=by
 have aw:Hi ((s,(uT,((),((0:Int),())))),(([]:List Int),()))=some (((),()),(bytesOf (s.flatMap iQ),())):=by
  have hlen:∀t:F,(t.flatMap iQ).length=2*t.length:=by
   intro t;induction t with
   |nil=>rfl
   |cons b r ih=>rw[List.flatMap_cons,List.length_append,ih];simp[iQ];omega
  refine gC (g:=AQ) (fun i=>((s,(uT,((),((i:Int),())))),(bytesOf ((s.take i).flatMap iQ),()))) s.length (fun i hi=>?_) ?_ s.length 0 (by omega)
  ·obtain⟨b,hb⟩:∃b,s[i]? =some b:=⟨s[i],List.getElem?_eq_getElem hi⟩;have al:nc .u8 (b.toNat:Int) 16=some ((b.toNat/16:Nat):Int):=by
    have:=b.toNat_lt;unfold nc;rw[if_neg (by decide),Int.tdiv_eq_ediv_of_nonneg (by omega),IntKind.wrap_u8]
    congr 1;omega
   have hr:lr (b.toNat:Int) 16=some ((b.toNat%16:Nat):Int):=by rw[Ct (by omega) (by omega)];simp
   have:=b.toNat_lt;have e1:=J1 (k:=b.toNat/16) (by omega)
   have e2:=J1 (k:=b.toNat%16) (by omega)
   have ao:s.take (i+1)=s.take i++[b]:=by rw[List.take_add_one,hb];rfl
   simp only[AQ,cn hi,cond_true,cc,hb,Option.bind_some,al,hr,ao];simp only[<-cc,e1,e2,Option.bind_some];rw[ew (by decide) (by unfold am;rw[j_,hlen];simp;omega),b6 (by unfold am;omega)]
   simp only[Option.bind_some,List.flatMap_append,rb];rfl
  ·simp only[AQ,dr,cond_false,List.take_length]
 have fc:([48,49,50,51,52,53,54,55,56,57,97,98,99,100,101,102]:F)=uT:=rfl;simp only[f236,fc,aw,Option.bind_some,zv]
abbrev sN(w:Int):Prop:=0<=w/\w<4294967296
theorem S0{w:Int}(h:sN w):iQ (UInt8.ofNat (IntKind.u8.wrap (w.fdiv (2^24))).toNat)++(iQ (UInt8.ofNat (IntKind.u8.wrap (w.fdiv (2^16))).toNat)++(iQ (UInt8.ofNat (IntKind.u8.wrap (w.fdiv (2^8))).toNat)++iQ (UInt8.ofNat (IntKind.u8.wrap w).toNat)))=gq w:=by
 obtain⟨n,rfl⟩:=Int.eq_ofNat_of_zero_le h.1;have hn:n<4294967296:=by have:=h.2;omega
 have e:∀m:Nat,(UInt8.ofNat (IntKind.u8.wrap (m:Int)).toNat).toNat=m%256:=fun m=>by
  rw[IntKind.wrap_u8,show((m:Int)%256).toNat=m%256 by omega];simp
 have f:∀k:Nat,((n:Int).fdiv (2^k))=((n/2^k:Nat):Int):=fun k=>by
  rw[Int.fdiv_eq_ediv_of_nonneg _ (by exact Int.le_of_lt (Int.pow_pos (by decide)))]
  simp
 rw[f,f,f];simp only[iQ,gq,e,List.cons_append,List.nil_append,Int.toNat_natCast];rw[show n/2^24%256/16=n/268435456%16 by omega,show n/2^24%256%16=n/16777216%16 by omega,show n/2^16%256/16=n/1048576%16 by omega,show n/2^16%256%16=n/65536%16 by omega,
  show n/2^8%256/16=n/4096%16 by omega,show n/2^8%256%16=n/256%16 by omega,show n%256/16=n/16%16 by omega,show n%256%16=n%16 by omega]
theorem UF(x:Int):sN (IntKind.u32.wrap x):=by rw[IntKind.wrap_u32];constructor<;>omega
theorem XB(s:F):sN (ee s).a/\sN (ee s).b:=by
 have h1:=IB s;have h2:=AI s;unfold ee;generalize hk:(eI s).length/64=k at h1;cases k with
 |zero=>omega
 |succ k=>exact⟨UF _,UF _⟩
theorem RJ(w:Int):(gq w).length=8:=rfl
theorem GZ(s:F):(qB s).length=16:=rfl
theorem amw(s:F)(h:q7 s):f202 ((s,()),())=some ((qB s,()),()):=by
 have aw:=aiJ s h;have hw:=XB s;have an:=acE (strOf ((ee s).list.flatMap fun w=>[IntKind.u8.wrap (w.fdiv (2^24)),IntKind.u8.wrap (w.fdiv (2^16)),IntKind.u8.wrap (w.fdiv (2^8)),IntKind.u8.wrap w])) (by unfold q7;simp[strOf,ct.list])
 have ao:∀q:ct,bD ((strOf (q.list.flatMap fun w=>[IntKind.u8.wrap (w.fdiv (2^24)),IntKind.u8.wrap (w.fdiv (2^16)),IntKind.u8.wrap (w.fdiv (2^8)),IntKind.u8.wrap w])).flatMap iQ) 0 16=
   some ((iQ (UInt8.ofNat (IntKind.u8.wrap (q.a.fdiv (2^24))).toNat)++(iQ (UInt8.ofNat (IntKind.u8.wrap (q.a.fdiv (2^16))).toNat)++(iQ (UInt8.ofNat (IntKind.u8.wrap (q.a.fdiv (2^8))).toNat)++iQ (UInt8.ofNat (IntKind.u8.wrap q.a).toNat))))++
    (iQ (UInt8.ofNat (IntKind.u8.wrap (q.b.fdiv (2^24))).toNat)++(iQ (UInt8.ofNat (IntKind.u8.wrap (q.b.fdiv (2^16))).toNat)++(iQ (UInt8.ofNat (IntKind.u8.wrap (q.b.fdiv (2^8))).toNat)++iQ (UInt8.ofNat (IntKind.u8.wrap q.b).toNat))))):=fun q=>rfl
 simp only[f202,aw,an,Option.bind_some,ao,S0 hw.1,S0 hw.2];rfl
theorem anr{m:Nat}(h:m<4294967296):eS .u32 (m:Int) 15=((m%16:Nat):Int):=by
 unfold eS;rw[BitVec.toNat_and,F_ h,show(BitVec.ofInt IntKind.u32.bits 15).toNat=15 from rfl,show(15:Nat)=2^4-1 from rfl,Nat.and_two_pow_sub_one_eq_mod,p4 (by omega) (by omega)]
theorem aia(w:Int){i:Nat}(h:i<8):(gq w)[i]? =some (jX (w.toNat/2^(28-4*i)%16)):=by
 have:i=0\/i=1\/i=2\/i=3\/i=4\/i=5\/i=6\/i=7:=by omega
 rcases this with rfl|rfl|rfl|rfl|rfl|rfl|rfl|rfl<;>simp[gq]
theorem RI(w:Int)(hw:sN w)(r0:List Int)(hr:r0.length<=100)(p q u):Fj (((),(w,((28:Int),(p,(q,(u,())))))),(r0,(((),((),())),())))=some (((),(p,(q,(u,())))),(r0++bytesOf (gq w),(((),((),())),()))):=by
 have:=gC (g:=Fk) (fun i=>(((),(w,((28-4*(i:Int)),(p,(q,(u,())))))),(r0++bytesOf ((gq w).take i),(((),((),())),())))) 8 (b:=(((),(p,(q,(u,())))),(r0++bytesOf (gq w),(((),((),())),())))) (fun i hi=>?_) rfl 8 0 rfl
 ·rw[show(28:Int)-4*((0:Nat):Int)=28 from rfl,List.take_zero] at this
  have e:r0++bytesOf []=r0:=List.append_nil r0;rw[e] at this;exact this
 ·obtain⟨n,rfl⟩:=Int.eq_ofNat_of_zero_le hw.1;have hn:n<4294967296:=by have:=hw.2;omega
  have hl:decide ((28-4*(i:Int))>=0)=true:=by simp;omega
  have hs:fM .u32 (n:Int) (28-4*(i:Int))=some ((n/2^(28-4*i):Nat):Int):=by
   rw[show(28-4*(i:Int))=((28-4*i:Nat):Int) by omega]
   unfold fM;rw[if_neg (by omega),Int.toNat_natCast,show IntKind.u32.bits=32 from rfl,Nat.min_eq_left (by omega),Int.fdiv_eq_ediv_of_nonneg _ (by exact Int.le_of_lt (Int.pow_pos (by decide)))]
   simp
  have hlt:n/2^(28-4*i)<4294967296:=Nat.lt_of_le_of_lt (Nat.div_le_self _ _) hn;have ha:=anr hlt;have hx:=J1 (k:=n/2^(28-4*i)%16) (Nat.mod_lt _ (by decide))
  have Y:IntKind.i64.wrap (28-4*(i:Int)-4)=28-4*((i+1:Nat):Int):=by rw[c' (by omega) (by omega)];omega
  have ao:(gq (n:Int)).take (i+1)=(gq (n:Int)).take i++[jX (n/2^(28-4*i)%16)]:=by
   rw[List.take_add_one,aia _ hi,Int.toNat_natCast];rfl
  have fc:([48,49,50,51,52,53,54,55,56,57,97,98,99,100,101,102]:F)=uT:=rfl;simp only[Fk,hl,cond_true,hs,Option.bind_some,ha,fc,hx,J9,Y,ao,rb];rw[ew (by decide) (by unfold am;simp[j_,RJ];omega)]
  simp only[Option.bind_some,List.append_assoc];rfl
theorem akM(s:F)(h:q7 s):f209 ((s,()),())=some ((qB s,()),()):=by
 have dQ:=IB s;have hlen:=AI s;have hz:=w1 (s.length+1);have kv:=RD s;have hm:(if s.length<=maxLen then some () else none)=some ():=if_pos (by unfold maxLen;omega)
 have ha:cw 1 (bytesOf s) ([128]:List Int)=some (bytesOf s++[128]):=ew (by decide) (by unfold am;rw[j_];simp;omega)
 have h8:long 8 (List.replicate 8 (0:Int))=some (List.replicate 8 (0:Int)):=rfl;have aw:∀r0:List Int,IU ((s,((),((),()))),(r0,(bytesOf s++[128],())))=some ((s,((),((),()))),(r0,(jU s,()))):=by
  intro r0;have sF:∀i:Nat,(bytesOf s++[128]++List.replicate i (0:Int)).length=s.length+1+i:=fun i=>by simp[j_];omega
  have:=gC (g:=BO) (fun i=>((s,((),((),()))),(r0,(bytesOf s++[128]++List.replicate i (0:Int),())))) (kX (s.length+1)) (b:=((s,((),((),()))),(r0,(jU s,())))) (fun i hi=>?_) ?_ (kX (s.length+1)) 0 (by omega)
  ·rw[List.replicate_zero,List.append_nil] at this;exact this
  ·have hne:((((s.length+1+i)%64:Nat):Int) !=56)=true:=by have:=R0 (s.length+1) i hi;rw[bne_iff_ne];omega
   simp only[BO,sF,C2,Option.bind_some,hne,cond_true];rw[ew (by decide) (by unfold am;rw[sF];simp;omega)]
   simp only[Option.bind_some,RT]
  ·have hne:((((s.length+1+kX (s.length+1))%64:Nat):Int) !=56)=false:=by have:=HS (s.length+1);rw[this];rfl
   simp only[BO,sF,C2,Option.bind_some,hne,cond_false];rfl
 have an:∀(n:Int) (r0:List Int),Hj (((),((),(n,((56:Int),())))),(r0,(jU s,())))=some (((),((),())),(r0,(jU s++kR n,()))):=by
  intro n r0;have:=gC (g:=HE) (fun i=>(((),((),(n,((56-8*(i:Int)),())))),(r0,(jU s++(kR n).take i,())))) 8 (b:=(((),((),())),(r0,(jU s++kR n,())))) (fun i hi=>?_) rfl 8 0 rfl
  ·rw[show(56:Int)-8*((0:Nat):Int)=56 from rfl,List.take_zero,List.append_nil] at this;exact this
  ·have hl:decide ((56-8*(i:Int))>=0)=true:=by simp;omega
   have hw:(56-8*(i:Int))=((8*(7-i):Nat):Int):=by omega
   have hs:IntKind.i64.wrap (56-8*(i:Int)-8)=56-8*((i+1:Nat):Int):=by rw[c' (by omega) (by omega)];omega
   have hx:fM .u64 n (56-8*(i:Int))=some (n.fdiv (2^(8*(7-i)))):=by rw[hw];exact akR (by omega)
   simp only[HE,hl,cond_true,hx,Option.bind_some,hs];rw[ew (by decide) (by unfold am;simp[G5,kR];have:=w1 (s.length+1);omega)]
   simp only[Option.bind_some,List.append_assoc,Qw n hi]
 have hp:∀q:ct,long 8 q.list=some q.list:=fun q=>rfl
 have bo:Gj (((),(eI s,((0:Int),()))),(zl.list,()))=some (((),()),((ee s).list,())):=by
  refine gC (g:=Ad) (fun k=>(((),(eI s,(((64*k:Nat):Int),()))),((vj (eI s) k).list,()))) ((eI s).length/64) (fun k hk=>?_) ?_ ((eI s).length/64) 0 (by omega)
  ·have hk2:64*k+64<=(eI s).length:=by omega
   have hl:decide (((64*k:Nat):Int)<((eI s).length:Int))=true:=by simp;omega
   have hw:IntKind.i64.wrap (((64*k:Nat):Int)+64)=((64*k+64:Nat):Int):=by rw[c' (by omega) (by omega)];omega
   have hs:bD (eI s) ((64*k:Nat):Int) ((64*k+64:Nat):Int)=some (sj (eI s) k):=rq (by omega) hk2
   have hb:=adu (vj (eI s) k) (sj (eI s) k) (S_ hk2 kv);have al:∀q:ct,((q.list.getD 0 0,(q.list.getD 1 0,(q.list.getD 2 0,(q.list.getD 3 0,(q.list.getD 4 0,(q.list.getD 5 0,(q.list.getD 6 0,(q.list.getD 7 0,())))))))):Int×Int×Int×Int×Int×Int×Int×Int×Unit)=(q.a,(q.b,(q.c,(q.d,(q.e,(q.f,(q.g,(q.h,())))))))):=fun q=>rfl
   simp only[Ad,hl,cond_true,hw,hs,Option.bind_some,hp,al,hb];rfl
  ·have hl:decide (((64*((eI s).length/64):Nat):Int)<((eI s).length:Int))=false:=by simp;omega
   simp only[Ad,hl,cond_false];rfl
 have hw:=XB s;have cl:∀a b:Int,sN a->sN b->Gi (((),(([a,b]:List Int),((([a,b]:List Int).length:Int),((0:Int),())))),(([]:List Int),(((),((),())),())))=some (((),()),(bytesOf (gq a++gq b),(((),((),())),()))):=by
  intro a b ha hb;have e1:=RI a ha [] (by simp) ([a,b]:List Int) ((2:Int)) (0:Int)
  have e2:=RI b hb (bytesOf (gq a)) (by rw[j_,RJ];decide) ([a,b]:List Int) ((2:Int)) (1:Int)
  have dE:aQ ([a,b]:List Int) 0=some a:=rfl;have eV:aQ ([a,b]:List Int) 1=some b:=rfl;have iX:rj (((),(([a,b]:List Int),((2:Int),((0:Int),())))),(([]:List Int),(((),((),())),())))=some (.inl (((),(([a,b]:List Int),((2:Int),((1:Int),())))),(bytesOf (gq a),(((),((),())),())))):=by
   have:decide ((0:Int)<2)=true:=rfl;simp only[rj,this,cond_true,dE,Option.bind_some,e1];rfl
  have s1:rj (((),(([a,b]:List Int),((2:Int),((1:Int),())))),(bytesOf (gq a),(((),((),())),())))=some (.inl (((),(([a,b]:List Int),((2:Int),((2:Int),())))),(bytesOf (gq a++gq b),(((),((),())),())))):=by
   have:decide ((1:Int)<2)=true:=rfl;simp only[rj,this,cond_true,eV,Option.bind_some,e2,rb];rfl
  have s2:rj (((),(([a,b]:List Int),((2:Int),((2:Int),())))),(bytesOf (gq a++gq b),(((),((),())),())))=some (.inr (((),()),(bytesOf (gq a++gq b),(((),((),())),())))):=by
   have:decide ((2:Int)<2)=false:=rfl;simp only[rj,this,cond_false]
  exact(dL iX).trans ((dL s1).trans (cx s2))
 have hn:IntKind.u64.wrap (IntKind.u64.wrap (s.length:Int)*8)=(s.length:Int)*8:=by rw[IntKind.wrap_u64,IntKind.wrap_u64];omega
 have fc:([1779033703,3144134277,1013904242,2773480762,1359893119,2600822924,528734635,1541459225]:List Int)=zl.list:=rfl;have hz2:((long 8 (ee s).list).bind fun q=>bD q (0:Int) (2:Int))=some [(ee s).a,(ee s).b]:=rfl
 have apn:jU s++kR ((s.length:Int)*8)=eI s:=rfl;simp only[f209,h8,hm,ha,Option.bind_some,fc,aw,hn,an,apn,bo,hz2,cl _ _ hw.1 hw.2,zv];rfl
abbrev i149:Shape:=⟨[ad 0],[],28⟩
abbrev oe:Shape:=⟨[aq 2],[],28⟩
noncomputable def Kw(aO:i149.J->Option oe.J):aK:=a6 ak Tryz.f149 i149 oe [] aO
noncomputable abbrev aq2(aO:i149.J->Option oe.J):bl:=[(149,(Kw aO))]
theorem arL(aO:i149.J->Option oe.J)(fH:aL Z 149 (Kw aO)):bc Z (bi ak (aq2 aO)):=bj ⟨fH,⟨⟩⟩
noncomputable def qx(aO:i149.J->Option oe.J)(a:i149.J):Option oe.J:=
 bif(decide (a.1.1<((-9223372036854775807):Int))) then
 some ((([45,57,50,50,51,51,55,50,48,51,54,56,53,52,55,55,53,56,48,56]:F),()),())
else
 bif(decide (a.1.1<(0:Int))) then
(aO (((IntKind.i64.wrap (0-a.1.1)),()),())).bind fun b=>
(ch ([45]:F) b.1.1).bind fun c=>
 some ((c,()),())
else
 bif(decide (a.1.1<(10:Int))) then
 some (((strOf ([(IntKind.u8.wrap (IntKind.i64.wrap ((48:Int)+a.1.1)))]:List Int)),()),())
else
(nc .i64 a.1.1 (10:Int)).bind fun d=>
(aO ((d,()),())).bind fun e=>
(lr a.1.1 (10:Int)).bind fun f=>
(ch e.1.1 (strOf ([(IntKind.u8.wrap (IntKind.i64.wrap ((48:Int)+f)))]:List Int))).bind fun g=>
 some ((g,()),())
theorem amh(aO:i149.J->Option oe.J)(fH:aL Z 149 (Kw aO)):aL Z 149 (a6 ak Tryz.f149 i149 oe [] (qx aO)):=ba (arL aO fH) Tryz.func149 (by kernel_rfl) aj (fun y=>by kernel_rfl) fun a=>by kernel_rfl
noncomputable def f149:i149.J->Option oe.J:=uw qx De
noncomputable def LI:aK:=a6 ak Tryz.f149 i149 oe [] f149
theorem Vw:aL Z 149 LI:=akZ (ff:=qx) amh De
noncomputable abbrev aqr:bl:=[(149,LI)]
theorem art:bc Z (bi ak aqr):=bj ⟨Vw,⟨⟩⟩
abbrev i235:Shape:=⟨[dw 0 [ax,bz,bz,ax]],[],45⟩
abbrev V':Shape:=⟨[aq 2],[],45⟩
noncomputable def f235(a:i235.J):Option V'.J:=
 bif(a.1.1.2.1==(1:Int)) then
(f149 ((a.1.1.2.2.1,()),())).bind fun b=>
(ch ([100,105,114,32]:F) b.1.1).bind fun c=>
(ch c ([32]:F)).bind fun d=>
(ch d a.1.1.1).bind fun e=>
(ch e ([10]:F)).bind fun f=>
 some ((f,()),())
else
 bif(a.1.1.2.1==(3:Int)) then
(ch ([108,105,110,107,32]:F) a.1.1.1).bind fun g=>
(ch g ([32]:F)).bind fun h=>
(ch h a.1.1.2.2.2.1).bind fun i=>
(ch i ([10]:F)).bind fun j=>
 some ((j,()),())
else
(f149 ((a.1.1.2.2.1,()),())).bind fun k=>
(ch ([102,105,108,101,32]:F) k.1.1).bind fun l=>
(ch l ([32]:F)).bind fun m=>
(ch m a.1.1.1).bind fun n=>
(ch n ([32]:F)).bind fun D=>
(f149 (((a.1.1.2.2.2.1.length:Int),()),())).bind fun p=>
(ch D p.1.1).bind fun q=>
(ch q ([10]:F)).bind fun r=>
(ch r a.1.1.2.2.2.1).bind fun s=>
(ch s ([10]:F)).bind fun t=>
 some ((t,()),())
noncomputable def X5:aK:=a6 ak Tryz.f235 i235 V' [] f235
theorem anZ:aL Z 235 X5:=ba art Tryz.func235 (by kernel_rfl) aj (fun y=>by kernel_rfl) fun a=>by kernel_rfl
noncomputable abbrev aqJ:bl:=[(235,X5)]
theorem Y5:bc Z (bi ak aqJ):=bj ⟨anZ,⟨⟩⟩
abbrev Bd:Shape:=⟨[aM 0 .entry,aq 3,ad 4],[],19⟩
abbrev Ib:List aR:=[(.exit 0,⟨[aq 3],[],19⟩)]
noncomputable def BR(y:Bd.J):bR Bd Ib:=
 bif(decide (y.1.2.2.1<(y.1.1.length:Int))) then
(aQ y.1.1 y.1.2.2.1).bind fun a=>
(f235 (((a.path,a.kind,a.mode,a.text,()),()),())).bind fun b=>
(ch y.1.2.1 b.1.1).bind fun c=>
 some (.inl ((y.1.1,c,(IntKind.i64.wrap (y.1.2.2.1+(1:Int))),()),()))
else
 some (.inr ((y.1.2.1,()),()))
noncomputable def IW:Bd.J->Option (aF Ib):=bu BR
theorem ajk:aX Z (ap (codeOf Tryz.f200) 1 58) (bb Bd Ib IW):=bW Y5 (by kernel_rfl) aj fun y=>by kernel_rfl
abbrev i200:Shape:=⟨[aM 0 .entry],[],19⟩
abbrev Wt:Shape:=⟨[aq 2],[],19⟩
noncomputable def f200(a:i200.J):Option Wt.J:=
(IW ((a.1.1,([]:F),(0:Int),()),())).bind fun b=>
 some ((b.1.1,()),())
noncomputable def LB:aK:=a6 ak Tryz.f200 i200 Wt [] f200
theorem Vt:aL Z 200 LB:=ba Y5 Tryz.func200 (by kernel_rfl) (bd ajk aj) (fun y=>by kernel_rfl) fun a=>by kernel_rfl
abbrev T0:Shape:=⟨[a8 0 500000 0,aq 1],[bI 37000001 .u8 500000 1,a7 500000 [.dH,.own 37000001]],19⟩
abbrev TG:Shape:=⟨[a8 0 500000 0,ad 4,(5,.ag (.Dz))],[bI 37000001 .u8 500000 1,a7 500000 [.dH,.own 37000001]],19⟩
noncomputable def n4(a:T0.J):Option TG.J:=
(cw 1 a.2.1 (bytesOf a.1.2.1)).bind fun b=>
 some (((),(a.1.2.1.length:Int),(),()),b,((),(),()),())
noncomputable def Ke:aK:=a6 ak Tryz.f246 T0 TG [0] n4
theorem Td:aL Z 246 Ke:=ba g0 Tryz.func246 (by kernel_rfl) aj (fun y=>by kernel_rfl) fun a=>by kernel_rfl
end Go.Proofs
namespace Go.Proofs
open Go.Shelf
def Tryz.acj:Go.Shelf.Ren:=⟨fun|171=>283|243=>302|246=>307|283=>310|284=>311|285=>312|286=>313|129=>174|317=>314|318=>315|319=>316|320=>317|337=>318|338=>319|n=>n,fun|3=>3|9=>9|2=>2|4=>4|171=>281|0=>0|53=>191|37=>62|5=>5|173=>283|212=>286|51=>189|20=>20|213=>287|46=>131|232=>288|233=>289|n=>n,fun|17=>4|18=>5|19=>6|n=>n⟩
theorem Tryz.ah5:Go.Proofs.LaysM.n171 Z Tryz.acj:={
 mixed:=by kernel_rfl
 f129:=Tryz.func174.trans (congrArg some (by kernel_rfl))
 f171:=Tryz.func283.trans (congrArg some (by kernel_rfl))
 f243:=Tryz.func302.trans (congrArg some (by kernel_rfl))
 f246:=Tryz.func307.trans (congrArg some (by kernel_rfl))
 f283:=Tryz.func310.trans (congrArg some (by kernel_rfl))
 f284:=Tryz.func311.trans (congrArg some (by kernel_rfl))
 f285:=Tryz.func312.trans (congrArg some (by kernel_rfl))
 f286:=Tryz.func313.trans (congrArg some (by kernel_rfl))
 f317:=Tryz.func314.trans (congrArg some (by kernel_rfl))
 f318:=Tryz.func315.trans (congrArg some (by kernel_rfl))
 f319:=Tryz.func316.trans (congrArg some (by kernel_rfl))
 f320:=Tryz.func317.trans (congrArg some (by kernel_rfl))
 f337:=Tryz.func318.trans (congrArg some (by kernel_rfl))
 f338:=Tryz.func319.trans (congrArg some (by kernel_rfl))
 t0:=Tryz.underlying0
 a0:=Tryz.isAgg0
 z0:=Tryz.sizeOf0
 v0:=Tryz.zeroValue0
 t2:=Tryz.underlying2
 a2:=Tryz.isAgg2
 z2:=Tryz.sizeOf2
 v2:=Tryz.zeroValue2
 t3:=Tryz.underlying3
 a3:=Tryz.isAgg3
 z3:=Tryz.sizeOf3
 v3:=Tryz.zeroValue3
 t4:=Tryz.underlying4
 a4:=Tryz.isAgg4
 z4:=Tryz.sizeOf4
 v4:=Tryz.zeroValue4
 t5:=Tryz.underlying5
 a5:=Tryz.isAgg5
 z5:=Tryz.sizeOf5
 v5:=Tryz.zeroValue5
 t9:=Tryz.underlying9
 a9:=Tryz.isAgg9
 z9:=Tryz.sizeOf9
 v9:=Tryz.zeroValue9
 t20:=Tryz.underlying20
 a20:=Tryz.isAgg20
 z20:=Tryz.sizeOf20
 v20:=Tryz.zeroValue20
 t37:=Tryz.underlying62
 a37:=Tryz.isAgg62
 z37:=Tryz.sizeOf62
 v37:=Tryz.zeroValue62
 t46:=Tryz.underlying131
 a46:=Tryz.isAgg131
 z46:=Tryz.sizeOf131
 v46:=Tryz.zeroValue131
 t51:=Tryz.underlying189
 a51:=Tryz.isAgg189
 z51:=Tryz.sizeOf189
 v51:=Tryz.zeroValue189
 t53:=Tryz.underlying191
 a53:=Tryz.isAgg191
 z53:=Tryz.sizeOf191
 v53:=Tryz.zeroValue191
 t171:=Tryz.underlying281
 a171:=Tryz.isAgg281
 z171:=Tryz.sizeOf281
 v171:=Tryz.zeroValue281
 t173:=Tryz.underlying283
 a173:=Tryz.isAgg283
 z173:=Tryz.sizeOf283
 v173:=Tryz.zeroValue283
 t212:=Tryz.underlying286
 a212:=Tryz.isAgg286
 z212:=Tryz.sizeOf286
 v212:=Tryz.zeroValue286
 t213:=Tryz.underlying287
 a213:=Tryz.isAgg287
 z213:=Tryz.sizeOf287
 t232:=Tryz.underlying288
 a232:=Tryz.isAgg288
 z232:=Tryz.sizeOf288
 v232:=Tryz.zeroValue288
 t233:=Tryz.underlying289
 a233:=Tryz.isAgg289
 z233:=Tryz.sizeOf289
 v233:=Tryz.zeroValue289
 g17:=by kernel_rfl
 g18:=by kernel_rfl
 g19:=by kernel_rfl
 i0:=by kernel_rfl
 i2:=by kernel_rfl
 i3:=by kernel_rfl
 i4:=by kernel_rfl
 i5:=by kernel_rfl
 i9:=by kernel_rfl
 i20:=by kernel_rfl
 i37:=by kernel_rfl
 i46:=by kernel_rfl
 i51:=by kernel_rfl
 i53:=by kernel_rfl
 i171:=by kernel_rfl
 i173:=by kernel_rfl
 i212:=by kernel_rfl
 i232:=by kernel_rfl
 i233:=by kernel_rfl
 m17:=by kernel_rfl
 m18:=by kernel_rfl
 m19:=by kernel_rfl}
open Go.RowKit Go.Sort Go.Lib in
theorem Tryz.strconv_Itoa(n:Int)(h0:-9223372036854775808<=n)(h1:n<=9223372036854775807)(w:World)(apf:Lib.TabIs Z w "internal/strconv.uint64pow10" .u64 Lib.pow10Tab):
  Calls Z 283 #[.int .i64 n] w fun e w'=>e=.returned (.string ⟨(Lib.itoa n).toArray⟩)/\∃k os,w'=grow (w.drewN k) os:=Any.strconv_Itoa Tryz.ah5 n h0 h1 w apf
def Tryz.ada:Go.Shelf.Ren:=⟨fun|153=>243|152=>278|226=>279|227=>280|228=>281|137=>299|119=>300|224=>273|225=>272|217=>271|266=>297|n=>n,fun|9=>9|3=>3|4=>4|5=>5|21=>21|117=>261|116=>260|0=>0|46=>131|124=>272|n=>n,fun|n=>n⟩
theorem Tryz.ajX:Go.Proofs.Lays.n153 Z Tryz.ada:={
 mixed:=by kernel_rfl
 f119:=Tryz.func300.trans (congrArg some (by kernel_rfl))
 f137:=Tryz.func299.trans (congrArg some (by kernel_rfl))
 f152:=Tryz.func278.trans (congrArg some (by kernel_rfl))
 f153:=Tryz.func243.trans (congrArg some (by kernel_rfl))
 f217:=Tryz.func271.trans (congrArg some (by kernel_rfl))
 f224:=Tryz.func273.trans (congrArg some (by kernel_rfl))
 f225:=Tryz.func272.trans (congrArg some (by kernel_rfl))
 f226:=Tryz.func279.trans (congrArg some (by kernel_rfl))
 f227:=Tryz.func280.trans (congrArg some (by kernel_rfl))
 f228:=Tryz.func281.trans (congrArg some (by kernel_rfl))
 f266:=Tryz.func297.trans (congrArg some (by kernel_rfl))
 t0:=Tryz.underlying0
 a0:=Tryz.isAgg0
 z0:=Tryz.sizeOf0
 v0:=Tryz.zeroValue0
 t3:=Tryz.underlying3
 a3:=Tryz.isAgg3
 z3:=Tryz.sizeOf3
 v3:=Tryz.zeroValue3
 t4:=Tryz.underlying4
 a4:=Tryz.isAgg4
 z4:=Tryz.sizeOf4
 v4:=Tryz.zeroValue4
 t5:=Tryz.underlying5
 a5:=Tryz.isAgg5
 z5:=Tryz.sizeOf5
 v5:=Tryz.zeroValue5
 t9:=Tryz.underlying9
 a9:=Tryz.isAgg9
 z9:=Tryz.sizeOf9
 v9:=Tryz.zeroValue9
 t21:=Tryz.underlying21
 a21:=Tryz.isAgg21
 z21:=Tryz.sizeOf21
 v21:=Tryz.zeroValue21
 t46:=Tryz.underlying131
 a46:=Tryz.isAgg131
 z46:=Tryz.sizeOf131
 v46:=Tryz.zeroValue131
 t116:=Tryz.underlying260
 a116:=Tryz.isAgg260
 z116:=Tryz.sizeOf260
 t117:=Tryz.underlying261
 a117:=Tryz.isAgg261
 z117:=Tryz.sizeOf261
 v117:=Tryz.zeroValue261
 t124:=Tryz.underlying272
 a124:=Tryz.isAgg272
 z124:=Tryz.sizeOf272
 v124:=Tryz.zeroValue272}
end Go.Proofs
namespace Go.Proofs
open Go.Jk
noncomputable def Ve:aK:=Hp
theorem amj:aL Z 283 Ve:=ajZ (fun _ _=>enters_of Tryz.func283 (by kernel_rfl) rfl _ _) fun n h0 h1 w hw=>Tryz.strconv_Itoa n h0 h1 w (agY (by kernel_rfl) (show pd w 4 .u64 Lib.pow10Tab from hw.2))
noncomputable abbrev aqi:bl:=[(86,yW),(246,Ke),(283,Ve)]
theorem YY:bc Z (bi ak aqi):=bj ⟨D1,Td,amj,⟨⟩⟩
abbrev Ax:Shape:=⟨[a8 3 3 0,aM 10 .entry,ad 11,ad 12],[bI 5000193 .u8 3 1,a7 3 [.dH,.own 5000193]],64⟩
abbrev GP:List aR:=[(.exit 0,⟨[a8 3 3 0],[bI 5000193 .u8 3 1,a7 3 [.dH,.own 5000193]],64⟩)]
noncomputable def AO(y:Ax.J):bR Ax GP:=
 bif(decide (y.1.2.2.2.1<y.1.2.2.1)) then
(aQ y.1.2.1 y.1.2.2.2.1).bind fun a=>
(if-9223372036854775808<=a.mode/\a.mode<=9223372036854775807 then some () else none).bind fun b=>
 bif(a.kind==(1:Int)) then
(ch ([100,105,114,32]:F) (Lib.itoa a.mode)).bind fun c=>
(ch c ([32]:F)).bind fun d=>
(ch d a.path).bind fun e=>
(ch e ([10]:F)).bind fun f=>
(n4 (((),f,()),y.2.1,((),(),()),())).bind fun g=>
 some (.inl (((),y.1.2.1,y.1.2.2.1,(IntKind.i64.wrap (y.1.2.2.2.1+(1:Int))),()),g.2.1,((),(),()),()))
else
 bif(a.kind==(2:Int)) then
(ch ([102,105,108,101,32]:F) (Lib.itoa a.mode)).bind fun h=>
(ch h ([32]:F)).bind fun i=>
(ch i a.path).bind fun j=>
(ch j ([32]:F)).bind fun k=>
(if-9223372036854775808<=(a.text.length:Int)/\(a.text.length:Int)<=9223372036854775807 then some () else none).bind fun l=>
(ch k (Lib.itoa (a.text.length:Int))).bind fun m=>
(ch m ([10]:F)).bind fun n=>
(n4 (((),n,()),y.2.1,((),(),()),())).bind fun D=>
(ch a.text ([10]:F)).bind fun p=>
(n4 (((),p,()),D.2.1,((),(),()),())).bind fun q=>
 some (.inl (((),y.1.2.1,y.1.2.2.1,(IntKind.i64.wrap (y.1.2.2.2.1+(1:Int))),()),q.2.1,((),(),()),()))
else
 bif(a.kind==(3:Int)) then
(ch ([108,105,110,107,32]:F) a.path).bind fun r=>
(ch r ([32]:F)).bind fun s=>
(ch s a.text).bind fun t=>
(ch t ([10]:F)).bind fun u=>
(n4 (((),u,()),y.2.1,((),(),()),())).bind fun v=>
 some (.inl (((),y.1.2.1,y.1.2.2.1,(IntKind.i64.wrap (y.1.2.2.2.1+(1:Int))),()),v.2.1,((),(),()),()))
else
 some (.inl (((),y.1.2.1,y.1.2.2.1,(IntKind.i64.wrap (y.1.2.2.2.1+(1:Int))),()),y.2.1,((),(),()),()))
else
 some (.inr (((),()),y.2.1,((),(),()),()))
noncomputable def Hf:Ax.J->Option (aF GP):=bu AO
theorem ahq:aX Z (ap (codeOf Tryz.f248) 1 122) (bb Ax GP Hf):=bW YY (by kernel_rfl) aj fun y=>by kernel_rfl
abbrev i248:Shape:=⟨[aM 0 .entry],[],64⟩
abbrev V1:Shape:=⟨[aq 2],[],64⟩
noncomputable def f248(a:i248.J):Option V1.J:=
(f86 ((a.1.1,()),())).bind fun b=>
 bif(!b.1.1) then
 some ((([]:F),()),())
else
(Hf (((),a.1.1,(a.1.1.length:Int),(0:Int),()),([]:List Int),((),(),()),())).bind fun c=>
 some (((strOf c.2.1),()),())
noncomputable def XX:aK:=a6 ak Tryz.f248 i248 V1 [] f248
theorem anS:aL Z 248 XX:=ba YY Tryz.func248 (by kernel_rfl) (bd ahq aj) (fun y=>by kernel_rfl) fun a=>by kernel_rfl
theorem RW(m:Nat)(h:m<10):strOf ([(IntKind.u8.wrap (IntKind.i64.wrap ((48:Int)+(m:Int))))]:List Int)=[UInt8.ofNat (48+m)]:=by
 have:IntKind.u8.wrap (IntKind.i64.wrap ((48:Int)+(m:Int)))=((48+m:Nat):Int):=by
  rw[c' (by omega) (by omega),IntKind.wrap_u8];omega
 rw[this];rfl
theorem S8:∀n:Nat,n<10^20->(Lib.decDigits n).length<=20:=by
 have:∀(k n:Nat),n<10^(k+1)->(Lib.decDigits n).length<=k+1:=by
  intro k;induction k with
  |zero=>intro n h;rw[Lib.decDigits,dif_pos (by omega)];simp
  |succ k ih=>
   intro n h;rw[Lib.decDigits];split
   ·simp
   ·have:=ih (n/10) (by rw[Nat.pow_succ] at h;omega)
    simp;omega
 intro n h;exact this 19 n h
theorem rr(n:Nat):Lib.itoa (n:Int)=Lib.decDigits n:=by unfold Lib.itoa;rw[if_neg (by omega),Int.toNat_natCast]
theorem oU(n:Nat)(h:n<=4611686018427387904):(Lib.itoa (n:Int)).length<=20:=by rw[rr];exact S8 n (by omega)
theorem agO:∀(m:Nat),m<=4611686018427387903->∀f:Nat,m<f->uw qx f (((m:Int),()),())=some ((Lib.decDigits m,()),()):=by
 intro m;induction m using Nat.strongRecOn with
 |_ m ih=>
  intro hm f hf;obtain⟨f,rfl⟩:∃awh,f=awh+1:=⟨f-1,by omega⟩
  show qx (uw qx f) (((m:Int),()),())=_;have h1:decide ((m:Int)< -9223372036854775807)=false:=decide_eq_false (by omega)
  have h2:decide ((m:Int)<0)=false:=decide_eq_false (by omega)
  have h3:decide ((m:Int)<10)=decide (m<10):=by congr 1;apply propext;omega
  rw[Lib.decDigits];by_cases h:m<10
  ·rw[dif_pos h];simp only[qx,h1,h2,h3,h,decide_true,cond_true,cond_false,RW m h]
  ·have al:nc .i64 (m:Int) 10=some ((m/10:Nat):Int):=by exact TB rfl (by omega) (by omega) (by decide)
   have hr:lr (m:Int) 10=some ((m%10:Nat):Int):=by exact Ct (by omega) (by decide)
   rw[dif_neg h];simp only[qx,h1,h2,h3,h,decide_false,cond_false,al,hr,Option.bind_some,ih (m/10) (by omega) (by omega) f (by omega),RW (m%10) (by omega)]
   rw[eh (by have:=S8 (m/10) (by omega);simp;omega)]
   rfl
theorem HW(m:Nat)(h:m<=4611686018427387903):f149 (((m:Int),()),())=some ((Lib.itoa (m:Int),()),()):=by
 rw[rr];exact agO m h De (by unfold De;omega)
def ey(e:aG):F:=bif e.kind==1 then [100,105,114,32]++Lib.itoa e.mode++[32]++e.path++[10] else bif e.kind==3 then [108,105,110,107,32]++e.path++[32]++e.text++[10]
 else [102,105,108,101,32]++Lib.itoa e.mode++[32]++e.path++[32]++Lib.itoa (e.text.length:Int)++[10]++e.text++[10]
def dm(t:List aG):F:=t.flatMap ey
abbrev pW(e:aG):Prop:=0<=e.mode/\e.mode<=7
theorem I8{e:aG}(h:pW e):(Lib.itoa e.mode).length<=20:=by
 obtain⟨n,hn⟩:=Int.eq_ofNat_of_zero_le h.1;rw[hn];exact oU n (by have:=h.2;omega)
theorem Ge{e:aG}(h:pW e)(hb:mD e):(ey e).length<=4194404:=by
 have h1:=I8 h;have h2:=oU e.text.length (by have:=hb.2;omega)
 have h3:=hb.1;have aE:=hb.2;unfold ey;cases e.kind==1<;>cases e.kind==3<;>simp<;>omega
theorem agL(e:aG)(h:pW e)(hb:mD e):f235 (((e.path,(e.kind,(e.mode,(e.text,())))),()),())=some ((ey e,()),()):=by
 have h1:=I8 h;have h2:=oU e.text.length (by have:=hb.2;omega)
 have h3:=hb.1;have aE:=hb.2;obtain⟨n,hn⟩:=Int.eq_ofNat_of_zero_le h.1;have d1:=HW n (by have:=h.2;omega)
 rw[<-hn] at d1;have d2:=HW e.text.length (by omega)
 unfold ey;simp only[f235];cases e.kind==1 with
 |true=>
  simp only[cond_true,d1,Option.bind_some];repeat(rw[eh (by simp;omega),Option.bind_some])
 |false=>
  cases e.kind==3 with
  |true=>
   simp only[cond_true,cond_false,Option.bind_some];repeat(rw[eh (by simp;omega),Option.bind_some])
  |false=>
   simp only[cond_false,d1,d2,Option.bind_some];repeat(rw[eh (by simp;omega),Option.bind_some])
theorem wB{aB:Type}{f:aB->F}{n:Nat}:∀{xs:List aB},(∀x,x∈xs->(f x).length<=n)->(xs.flatMap f).length<=xs.length*n:=by
 intro xs;induction xs with
 |nil=>intro _;simp
 |cons x r ih=>
  intro h;have h1:=h x List.mem_cons_self;have h2:=ih fun y hy=>h y (List.mem_cons_of_mem _ hy)
  rw[List.flatMap_cons,List.length_append,List.length_cons,Nat.add_mul];omega
theorem oR{aB:Type}(f:aB->F){xs:List aB}{i:Nat}{x:aB}(h:xs[i]? =some x):(xs.take (i+1)).flatMap f=(xs.take i).flatMap f++f x:=by
 rw[List.take_add_one,h,List.flatMap_append];simp
theorem zF{t:List aG}(hm:∀e,e∈t->pW e)(hb:jk t)(hl:t.length<=16):(dm t).length<=67110464:=by
 have h1:=wB (f:=ey) (xs:=t) (n:=4194404) fun e he=>Ge (hm e he) (hb.2 e he)
 unfold dm;exact Nat.le_trans h1 (by omega)
theorem wi{aB:Type}{xs:List aB}{i:Nat}{x:aB}(h:x∈xs.take i):x∈xs:=List.mem_of_mem_take h
theorem N9{t:List aG}(hm:∀e,e∈t->pW e)(hb:jk t)(hl:t.length<=16)(i:Nat):((t.take i).flatMap ey).length<=67110464:=
 zF (t:=t.take i) (fun e he=>hm e (wi he)) ⟨Nat.le_trans (List.take_sublist i t).length_le hb.1,fun e he=>hb.2 e (wi he)⟩ (Nat.le_trans (List.take_sublist i t).length_le hl)
theorem FR(t:List aG)(hm:∀e,e∈t->pW e)(hb:jk t)(hl:t.length<=16):f200 ((t,()),())=some ((dm t,()),()):=by
 have aw:IW ((t,(([]:F),((0:Int),()))),())=some ((dm t,()),()):=by
  refine gC (g:=BR) (fun i=>((t,((t.take i).flatMap ey,((i:Int),()))),())) t.length (fun i hi=>?_) ?_ t.length 0 (by omega)
  ·obtain⟨e,he⟩:∃e,t[i]? =some e:=⟨t[i],List.getElem?_eq_getElem hi⟩;have en:=List.mem_of_getElem? he;have:=N9 hm hb hl i;have hP:=Ge (hm e en) (hb.2 e en);simp only[BR,cn hi,cond_true,cc,he,Option.bind_some,agL e (hm e en) (hb.2 e en)];rw[eh (by omega),b6 (by unfold am;omega),oR ey he]
   rfl
  ·simp only[BR,dr,cond_false,List.take_length];rfl
 simp only[f200,aw,Option.bind_some]
theorem tr{n a b:Int}(h:within n a b=true):a<=n/\n<=b:=by
 unfold within at h;simpa using h
theorem HK{e:aG}(h:fh e=true):pW e:=by
 unfold fh at h;simp only[Bool.and_eq_true] at h;have h:=h.2;cases aw:(e.kind==1) with
 |true=>
  rw[aw] at h;simp only[cond_true,Bool.and_eq_true] at h;exact tr h.1
 |false=>
  cases an:(e.kind==2) with
  |true=>
   rw[aw,an] at h;simp only[cond_true,cond_false,Bool.and_eq_true] at h;exact tr h.1
  |false=>
   rw[aw,an] at h;cases bo:(e.kind==3) with
   |true=>
    rw[bo] at h;simp only[cond_true,cond_false,Bool.and_eq_true,beq_iff_eq] at h;exact⟨by rw[h.1];decide,by rw[h.1];decide⟩
   |false=>rw[bo] at h;cases h
theorem vZ{e:aG}(h:fh e=true):e.kind=1\/e.kind=2\/e.kind=3:=by
 unfold fh at h;simp only[Bool.and_eq_true] at h;have h:=h.2;cases aw:(e.kind==1) with
 |true=>exact .inl (eq_of_beq aw)
 |false=>
  cases an:(e.kind==2) with
  |true=>exact .inr (.inl (eq_of_beq an))
  |false=>
   cases bo:(e.kind==3) with
   |true=>exact .inr (.inr (eq_of_beq bo))
   |false=>rw[aw,an,bo] at h;cases h
theorem vV{t:List aG}(h:dY t=true):∀e,e∈t->fh e=true:=by
 intro e he;unfold dY at h;simp only[Bool.and_eq_true] at h;obtain⟨i,hi⟩:=List.getElem?_of_mem he;have:=AU t 0 h.1.1 i e hi;unfold jz at this;simp only[Bool.and_eq_true] at this;exact this.1
theorem rL(xs:List Int)(s:F)(h:am (xs.length+s.length)):n4 (((),(s,())),(xs,(((),((),())),())))=some (((),((s.length:Int),((),()))),(xs++bytesOf s,(((),((),())),()))):=by
 simp only[n4];rw[ew (by decide) (by rw[j_];exact h)]
 rfl
theorem TY{n:Int}(h:-9223372036854775808<=n/\n<=9223372036854775807):(if-9223372036854775808<=n/\n<=9223372036854775807 then some () else none)=some ():=if_pos h
theorem acG(t:List aG)(hb:jk t):f248 ((t,()),())=some (((bif dY t then dm t else []),()),()):=by
 have h0:=rf ((t,()),()) hb;simp only[f248,h0,Option.bind_some];cases eZ:dY t with
 |false=>rfl
 |true=>
  have hl:=j' eZ;have Xv:=vV eZ;have hm:∀e,e∈t->pW e:=fun e he=>HK (Xv e he)
  have aw:Hf (((),(t,((t.length:Int),((0:Int),())))),(([]:List Int),(((),((),())),())))=some (((),()),(bytesOf (dm t),(((),((),())),()))):=by
   refine gC (g:=AO) (fun i=>(((),(t,((t.length:Int),((i:Int),())))),(bytesOf ((t.take i).flatMap ey),(((),((),())),())))) t.length (fun i hi=>?_) ?_ t.length 0 (by omega)
   ·obtain⟨e,he⟩:∃e,t[i]? =some e:=⟨t[i],List.getElem?_eq_getElem hi⟩;have en:=List.mem_of_getElem? he;have jW:=N9 hm hb hl i;have hP:=Ge (hm e en) (hb.2 e en);have h1:=I8 (hm e en);have h2:=oU e.text.length (by have:=(hb.2 e en).2;omega)
    have h3:=(hb.2 e en).1;have aE:=(hb.2 e en).2;have axY:=hm e en;have i1:=TY (n:=e.mode) ⟨by omega,by omega⟩
    have i2:=TY (n:=(e.text.length:Int)) ⟨by omega,by omega⟩
    rw[oR ey he,rb];simp only[AO,cn hi,cond_true,cc,he,Option.bind_some,i1,i2,b6 (i:=i) (by unfold am;omega)]
    generalize List.flatMap ey (List.take i t)=A at jW ⊢;rcases vZ (Xv e en) with hk|hk|hk
    ·have e1:ey e=[100,105,114,32]++Lib.itoa e.mode++[32]++e.path++[10]:=by unfold ey;rw[hk];rfl
     rw[hk,show((1:Int)==1)=true from rfl,cond_true,e1]
     repeat(rw[eh (by simp;omega),Option.bind_some])
     rw[rL _ _ (by unfold am;rw[j_];simp;omega)]
     rfl
    ·have e1:ey e=[102,105,108,101,32]++Lib.itoa e.mode++[32]++e.path++[32]++Lib.itoa (e.text.length:Int)++[10]++(e.text++[10]):=by unfold ey;rw[hk];simp
     rw[hk,show((2:Int)==1)=false from rfl,show((2:Int)==2)=true from rfl,cond_false,cond_true,e1]
     repeat(rw[eh (by simp;omega),Option.bind_some])
     rw[rL _ _ (by unfold am;rw[j_];simp;omega),Option.bind_some]
     rw[eh (by simp;omega),Option.bind_some]
     rw[rL _ _ (by unfold am;simp[j_];omega),rb _ (e.text++[10]),<-List.append_assoc]
     rfl
    ·have e1:ey e=[108,105,110,107,32]++e.path++[32]++e.text++[10]:=by unfold ey;rw[hk];rfl
     rw[hk,show((3:Int)==1)=false from rfl,show((3:Int)==2)=false from rfl,show((3:Int)==3)=true from rfl,cond_false,cond_false,cond_true,e1]
     repeat(rw[eh (by simp;omega),Option.bind_some])
     rw[rL _ _ (by unfold am;rw[j_];simp;omega)]
     rfl
   ·simp only[AO,dr,cond_false,List.take_length];rfl
  simp only[Bool.not_true,cond_false,cond_true,aw,Option.bind_some,zv]
abbrev i232:Shape:=⟨[ad 0],[],10⟩
abbrev Wc:Shape:=⟨[aq 2],[],10⟩
noncomputable def f232(a:i232.J):Option Wc.J:=
 bif(a.1.1==(1:Int)) then
 some ((([61]:F),()),())
else
 bif(a.1.1==(2:Int)) then
 some ((([62,61]:F),()),())
else
 bif(a.1.1==(3:Int)) then
 some ((([60]:F),()),())
else
 some ((([]:F),()),())
noncomputable def Lz:aK:=a6 ak Tryz.f232 i232 Wc [] f232
theorem z232:aL Z 232 Lz:=ba g0 Tryz.func232 (by kernel_rfl) aj (fun y=>by kernel_rfl) fun a=>by kernel_rfl
noncomputable abbrev aqs:bl:=[(232,Lz)]
theorem aru:bc Z (bi ak aqs):=bj ⟨z232,⟨⟩⟩
abbrev i234:Shape:=⟨[dw 0 [ax,bz,ax]],[],12⟩
abbrev Wa:Shape:=⟨[aq 2],[],12⟩
noncomputable def f234(a:i234.J):Option Wa.J:=
(f232 ((a.1.1.2.1,()),())).bind fun b=>
(ch a.1.1.1 b.1.1).bind fun c=>
(ch c a.1.1.2.2.1).bind fun d=>
 some ((d,()),())
noncomputable def Lx:aK:=a6 ak Tryz.f234 i234 Wa [] f234
theorem z234:aL Z 234 Lx:=ba aru Tryz.func234 (by kernel_rfl) aj (fun y=>by kernel_rfl) fun a=>by kernel_rfl
noncomputable abbrev aqI:bl:=[(200,LB),(234,Lx)]
theorem Y4:bc Z (bi ak aqI):=bj ⟨Vt,z234,⟨⟩⟩
abbrev Bc:Shape:=⟨[a8 1 1 0,aq 3,ad 4],[a7 1 [ax,ax,dA .need,dA .entry]],36⟩
abbrev Ia:List aR:=[(.exit 0,⟨[a8 1 1 0,aq 3],[a7 1 [ax,ax,dA .need,dA .entry]],36⟩)]
noncomputable def BQ(y:Bc.J):bR Bc Ia:=
 bif(decide (y.1.2.2.1<(y.2.1.2.2.1.length:Int))) then
(ch y.1.2.1 ([110,101,101,100,32]:F)).bind fun a=>
(aQ y.2.1.2.2.1 y.1.2.2.1).bind fun b=>
(f234 (((b.name,b.kind,b.aW,()),()),())).bind fun c=>
(ch a c.1.1).bind fun d=>
(ch d ([10]:F)).bind fun e=>
 some (.inl (((),e,(IntKind.i64.wrap (y.1.2.2.1+(1:Int))),()),(y.2.1.1,y.2.1.2.1,y.2.1.2.2.1,y.2.1.2.2.2.1,()),()))
else
 some (.inr (((),y.1.2.1,()),(y.2.1.1,y.2.1.2.1,y.2.1.2.2.1,y.2.1.2.2.2.1,()),()))
noncomputable def IV:Bc.J->Option (aF Ia):=bu BQ
theorem ajj:aX Z (ap (codeOf Tryz.f201) 1 58) (bb Bc Ia IV):=bW Y4 (by kernel_rfl) aj fun y=>by kernel_rfl
abbrev i201:Shape:=⟨[dw 0 [ax,ax,dA .need,dA .entry]],[],36⟩
abbrev Ws:Shape:=⟨[aq 2],[],36⟩
noncomputable def f201(a:i201.J):Option Ws.J:=
(ch ([112,97,99,107,32]:F) a.1.1.1).bind fun b=>
(ch b ([32]:F)).bind fun c=>
(ch c a.1.1.2.1).bind fun d=>
(ch d ([10]:F)).bind fun e=>
(IV (((),e,(0:Int),()),(a.1.1.1,a.1.1.2.1,a.1.1.2.2.1,a.1.1.2.2.2.1,()),())).bind fun f=>
(ch f.1.2.1 ([10]:F)).bind fun g=>
(f200 ((f.2.1.2.2.2.1,()),())).bind fun h=>
(ch g h.1.1).bind fun i=>
 some ((i,()),())
noncomputable def Yl:aK:=a6 ak Tryz.f201 i201 Ws [] f201
theorem z201:aL Z 201 Yl:=ba Y4 Tryz.func201 (by kernel_rfl) (bd ajj aj) (fun y=>by kernel_rfl) fun a=>by kernel_rfl
noncomputable abbrev aq3:bl:=[(201,Yl),(202,Yk)]
theorem arM:bc Z (bi ak aq3):=bj ⟨z201,an8,⟨⟩⟩
abbrev i148:Shape:=⟨[dw 0 [ax,ax,dA .need,dA .entry]],[],12⟩
abbrev WO:Shape:=⟨[aq 2],[],12⟩
noncomputable def f148(a:i148.J):Option WO.J:=
(f201 (((a.1.1.1,a.1.1.2.1,a.1.1.2.2.1,a.1.1.2.2.2.1,()),()),())).bind fun b=>
(f202 ((b.1.1,()),())).bind fun c=>
(ch ([115,117,109,32]:F) c.1.1).bind fun d=>
(ch d ([10]:F)).bind fun e=>
(ch e b.1.1).bind fun f=>
 some ((f,()),())
noncomputable def LJ:aK:=a6 ak Tryz.f148 i148 WO [] f148
theorem z148:aL Z 148 LJ:=ba arM Tryz.func148 (by kernel_rfl) aj (fun y=>by kernel_rfl) fun a=>by kernel_rfl
noncomputable abbrev aqj:bl:=[(121,x6)]
theorem arn:bc Z (bi ak aqj):=bj ⟨Dv,⟨⟩⟩
abbrev i247:Shape:=⟨[dw 0 [ax,bz,ax]],[],34⟩
abbrev V2:Shape:=⟨[aq 2],[],34⟩
noncomputable def f247(a:i247.J):Option V2.J:=
(f121 (((a.1.1.1,a.1.1.2.1,a.1.1.2.2.1,()),()),())).bind fun b=>
 bif(!b.1.1) then
 some ((([]:F),()),())
else
 bif(a.1.1.2.1==(1:Int)) then
(ch a.1.1.1 ([61]:F)).bind fun c=>
(ch c a.1.1.2.2.1).bind fun d=>
 some ((d,()),())
else
 bif(a.1.1.2.1==(2:Int)) then
(ch a.1.1.1 ([62,61]:F)).bind fun e=>
(ch e a.1.1.2.2.1).bind fun f=>
 some ((f,()),())
else
 bif(a.1.1.2.1==(3:Int)) then
(ch a.1.1.1 ([60]:F)).bind fun g=>
(ch g a.1.1.2.2.1).bind fun h=>
 some ((h,()),())
else
 some ((a.1.1.1,()),())
noncomputable def XY:aK:=a6 ak Tryz.f247 i247 V2 [] f247
theorem anT:aL Z 247 XY:=ba arn Tryz.func247 (by kernel_rfl) aj (fun y=>by kernel_rfl) fun a=>by kernel_rfl
noncomputable abbrev aqB:bl:=[(246,Ke),(247,XY),(248,XX)]
theorem Y2:bc Z (bi ak aqB):=bj ⟨Td,anT,anS,⟨⟩⟩
abbrev AC:Shape:=⟨[a8 1 1 0,a8 3 3 0,aM 16 .need,ad 17,ad 18],[a7 1 [ax,ax,dA .need,dA .entry],bI 5000193 .u8 3 1,a7 3 [.dH,.own 5000193]],34⟩
abbrev GV:List aR:=[(.exit 0,⟨[a8 1 1 0,a8 3 3 0],[a7 1 [ax,ax,dA .need,dA .entry],bI 5000193 .u8 3 1,a7 3 [.dH,.own 5000193]],34⟩)]
noncomputable def AR(y:AC.J):bR AC GV:=
 bif(decide (y.1.2.2.2.2.1<y.1.2.2.2.1)) then
(aQ y.1.2.2.1 y.1.2.2.2.2.1).bind fun a=>
(f247 (((a.name,a.kind,a.aW,()),()),())).bind fun b=>
(ch ([110,101,101,100,32]:F) b.1.1).bind fun c=>
(ch c ([10]:F)).bind fun d=>
(n4 (((),d,()),y.2.2.1,((),(),()),())).bind fun e=>
 some (.inl (((),(),y.1.2.2.1,y.1.2.2.2.1,(IntKind.i64.wrap (y.1.2.2.2.2.1+(1:Int))),()),(y.2.1.1,y.2.1.2.1,y.2.1.2.2.1,y.2.1.2.2.2.1,()),e.2.1,((),(),()),()))
else
 some (.inr (((),(),()),(y.2.1.1,y.2.1.2.1,y.2.1.2.2.1,y.2.1.2.2.2.1,()),y.2.2.1,((),(),()),()))
noncomputable def Hk:AC.J->Option (aF GV):=bu AR
theorem ahv:aX Z (ap (codeOf Tryz.f208) 1 122) (bb AC GV Hk):=bW Y2 (by kernel_rfl) aj fun y=>by kernel_rfl
abbrev i208:Shape:=⟨[dw 0 [ax,ax,dA .need,dA .entry]],[],34⟩
abbrev Wm:Shape:=⟨[aq 2],[],34⟩
noncomputable def f208(a:i208.J):Option Wm.J:=
(ch ([112,97,99,107,32]:F) a.1.1.1).bind fun b=>
(ch b ([32]:F)).bind fun c=>
(ch c a.1.1.2.1).bind fun d=>
(ch d ([10]:F)).bind fun e=>
(n4 (((),e,()),([]:List Int),((),(),()),())).bind fun f=>
(Hk (((),(),a.1.1.2.2.1,(a.1.1.2.2.1.length:Int),(0:Int),()),(a.1.1.1,a.1.1.2.1,a.1.1.2.2.1,a.1.1.2.2.2.1,()),f.2.1,((),(),()),())).bind fun g=>
(f248 ((g.2.1.2.2.2.1,()),())).bind fun h=>
(ch ([10]:F) h.1.1).bind fun i=>
(n4 (((),i,()),g.2.2.1,((),(),()),())).bind fun j=>
 some (((strOf j.2.1),()),())
noncomputable def Yf:aK:=a6 ak Tryz.f208 i208 Wm [] f208
theorem z208:aL Z 208 Yf:=ba Y2 Tryz.func208 (by kernel_rfl) (bd ahv aj) (fun y=>by kernel_rfl) fun a=>by kernel_rfl
noncomputable abbrev aqX:bl:=[(74,EK),(208,Yf),(209,Ye)]
theorem arI:bc Z (bi ak aqX):=bj ⟨LZ,z208,an5,⟨⟩⟩
abbrev i155:Shape:=⟨[dw 0 [ax,ax,dA .need,dA .entry]],[],15⟩
abbrev WI:Shape:=⟨[aq 2],[],15⟩
noncomputable def f155(a:i155.J):Option WI.J:=
(f74 (((a.1.1.1,a.1.1.2.1,a.1.1.2.2.1,a.1.1.2.2.2.1,()),()),())).bind fun b=>
 bif(!b.1.1) then
 some ((([]:F),()),())
else
(f208 (((a.1.1.1,a.1.1.2.1,a.1.1.2.2.1,a.1.1.2.2.2.1,()),()),())).bind fun c=>
(f209 ((c.1.1,()),())).bind fun d=>
(ch ([115,117,109,32]:F) d.1.1).bind fun e=>
(ch e ([10]:F)).bind fun f=>
(ch f c.1.1).bind fun g=>
 some ((g,()),())
noncomputable def Yz:aK:=a6 ak Tryz.f155 i155 WI [] f155
theorem aog:aL Z 155 Yz:=ba arI Tryz.func155 (by kernel_rfl) aj (fun y=>by kernel_rfl) fun a=>by kernel_rfl
noncomputable abbrev ava:bl:=[(148,LJ),(149,LI)]
theorem aaa:bc Z (bi ak ava):=bj ⟨z148,Vw,⟨⟩⟩
abbrev Ch:Shape:=⟨[a8 1 1 0,aq 3,ad 4],[a7 1 [dA .pack]],28⟩
abbrev Ju:List aR:=[(.exit 0,⟨[aq 3],[],28⟩)]
noncomputable def CE(y:Ch.J):bR Ch Ju:=
 bif(decide (y.1.2.2.1<(y.2.1.1.length:Int))) then
(aQ y.2.1.1 y.1.2.2.1).bind fun a=>
(f148 (((a.name,a.aW,a.bh,a.bK,()),()),())).bind fun b=>
(f149 (((b.1.1.length:Int),()),())).bind fun c=>
(ch y.1.2.1 c.1.1).bind fun d=>
(ch d ([10]:F)).bind fun e=>
(ch e b.1.1).bind fun f=>
 some (.inl (((),f,(IntKind.i64.wrap (y.1.2.2.1+(1:Int))),()),(y.2.1.1,()),()))
else
 some (.inr ((y.1.2.1,()),()))
noncomputable def JP:Ch.J->Option (aF Ju):=bu CE
theorem ak4:aX Z (ap (codeOf Tryz.f93) 1 58) (bb Ch Ju JP):=bW aaa (by kernel_rfl) aj fun y=>by kernel_rfl
abbrev i93:Shape:=⟨[dw 0 [dA .pack]],[],28⟩
abbrev Zt:Shape:=⟨[aq 2],[],28⟩
noncomputable def f93(a:i93.J):Option Zt.J:=
(JP (((),([]:F),(0:Int),()),(a.1.1.1,()),())).bind fun b=>
 some ((b.1.1,()),())
noncomputable def _K:aK:=a6 ak Tryz.f93 i93 Zt [] f93
theorem z93:aL Z 93 _K:=ba aaa Tryz.func93 (by kernel_rfl) (bd ak4 aj) (fun y=>by kernel_rfl) fun a=>by kernel_rfl
def dN(k:Int):F:=bif k==1 then [61] else bif k==2 then [62,61] else bif k==3 then [60] else []
theorem P6(k:Int):(dN k).length<=2:=by unfold dN;cases k==1<;>cases k==2<;>cases k==3<;>decide
def cS(n:bG):F:=n.name++dN n.kind++n.aW
theorem QW(k:Int):f232 ((k,()),())=some ((dN k,()),()):=by
 simp only[f232,dN];cases k==1<;>cases k==2<;>cases k==3<;>rfl
theorem G4{n:bG}(hb:yZ n):(cS n).length<=4194306:=by
 have:=P6 n.kind;have h1:=hb.1;have h2:=hb.2;unfold cS;simp;omega
theorem R3(n:bG)(hb:yZ n):f234 (((n.name,(n.kind,(n.aW,()))),()),())=some ((cS n,()),()):=by
 have:=P6 n.kind;have h1:=hb.1;have h2:=hb.2;have atq:=QW n.kind;simp only[f234,atq,Option.bind_some];rw[eh (by omega),Option.bind_some,eh (by simp;omega)]
 rfl
theorem ad7{n:bG}(h:dB n=true)(h1:(n.kind==1)=false)(h2:(n.kind==2)=false)(h3:(n.kind==3)=false):n.aW=[]:=by
 unfold dB at h;simp only[Bool.and_eq_true,Bool.or_eq_true] at h;rcases h.2 with h|h
 ·exact eq_of_beq h.2
 ·have:=tr h.1;simp at h1 h2 h3;omega
theorem ae3(n:bG)(hb:yZ n)(eZ:dB n=true):f247 (((n.name,(n.kind,(n.aW,()))),()),())=some ((cS n,()),()):=by
 have h0:=zO (((n.name,(n.kind,(n.aW,()))),()),()) hb.1 hb.2;have h0:f121 (((n.name,(n.kind,(n.aW,()))),()),())=some ((dB n,()),()):=h0;have h1:=hb.1;have h2:=hb.2;simp only[f247,h0,eZ,Option.bind_some,Bool.not_true,cond_false,cS,dN];cases aw:(n.kind==1) with
 |true=>
  simp only[cond_true];rw[eh (by simp;omega),Option.bind_some,eh (by simp;omega)]
  rfl
 |false=>
  cases an:(n.kind==2) with
  |true=>
   simp only[cond_true,cond_false];rw[eh (by simp;omega),Option.bind_some,eh (by simp;omega)]
   rfl
  |false=>
   cases bo:(n.kind==3) with
   |true=>
    simp only[cond_true,cond_false];rw[eh (by simp;omega),Option.bind_some,eh (by simp;omega)]
    rfl
   |false=>simp only[cond_false,ad7 eZ aw an bo,List.append_nil]
def cR(n:bG):F:=[110,101,101,100,32]++cS n++[10]
theorem afY{n:bG}(hb:yZ n):(cR n).length<=4194312:=by
 have:=G4 hb;unfold cR;simp;omega
def jf(p:aT):F:=[112,97,99,107,32]++p.name++[32]++p.aW++[10]
def du(p:aT):F:=jf p++p.bh.flatMap cR++[10]++dm p.bK
def bO(p:aT):F:=[115,117,109,32]++qB (du p)++[10]++du p
def fX(s:F):F:=Lib.itoa (s.length:Int)++[10]++s
def dT(ps:List aT):F:=ps.flatMap fun p=>fX (bO p)
theorem oO{p:aT}(h:cT p=true):ju p.name=true/\ev p.aW=true/\(∀n,n∈p.bh->dB n=true)/\p.bh.length<=6/\kl [] (p.name::p.bh.map (·.name))=false/\dY p.bK=true:=by
 unfold cT at h;simp only[Bool.and_eq_true] at h;obtain⟨⟨⟨h1,h2⟩,h3⟩,aE⟩:=h;unfold rE at h3;simp only[Bool.and_eq_true,decide_eq_true_eq,List.all_eq_true,Bool.not_eq_true'] at h3;exact⟨h1,h2,h3.1.1,h3.1.2,h3.2,aE⟩
theorem tk{t:List aG}(h:dY t=true):∀e,e∈t->pW e:=fun e he=>HK (vV h e he)
theorem vP{ns:List bG}(hb:uZ ns)(hl:ns.length<=6)(i:Nat):((ns.take i).flatMap cR).length<=25165872:=by
 have h1:=wB (f:=cR) (xs:=ns.take i) (n:=4194312) fun n hn=>afY (hb.2 n (wi hn))
 have h2:=(List.take_sublist i ns).length_le;exact Nat.le_trans h1 (by omega)
theorem GB{p:aT}(hb:k6 p)(hk:cT p=true):(du p).length<=100663296:=by
 obtain⟨_,_,_,cB,_,ao⟩:=oO hk;have h1:=vP hb.2.2.1 cB p.bh.length;rw[List.take_length] at h1;have h2:=zF (tk ao) hb.2.2.2 (j' ao);have h3:=hb.1;have aE:=hb.2.1;unfold du jf;generalize p.bh.flatMap cR=A at h1 ⊢;generalize dm p.bK=bx at h2 ⊢;simp;omega
theorem RC{p:aT}(hb:k6 p)(hk:cT p=true):(bO p).length<=100663400:=by
 have:=GB hb hk;unfold bO;generalize du p=bx at this ⊢;simp[GZ];omega
theorem agI(p:aT)(hb:k6 p)(hk:cT p=true):f201 (((p.name,(p.aW,(p.bh,(p.bK,())))),()),())=some ((du p,()),()):=by
 obtain⟨_,_,hn,cB,_,ao⟩:=oO hk;have h3:=hb.1;have aE:=hb.2.1;have k_:=FR p.bK (tk ao) hb.2.2.2 (j' ao);have atM:(jf p).length<=4194320:=by unfold jf;simp;omega
 have aw:IV (((),(jf p,((0:Int),()))),((p.name,(p.aW,(p.bh,(p.bK,())))),()))=some (((),(jf p++p.bh.flatMap cR,())),((p.name,(p.aW,(p.bh,(p.bK,())))),())):=by
  have:=gC (g:=BQ) (fun i=>(((),(jf p++(p.bh.take i).flatMap cR,((i:Int),()))),((p.name,(p.aW,(p.bh,(p.bK,())))),()))) p.bh.length (b:=(((),(jf p++p.bh.flatMap cR,())),((p.name,(p.aW,(p.bh,(p.bK,())))),()))) (fun i hi=>?_) ?_ p.bh.length 0 (by omega)
  ·rw[List.take_zero,List.flatMap_nil,List.append_nil] at this;exact this
  ·obtain⟨n,he⟩:∃n,p.bh[i]? =some n:=⟨p.bh[i],List.getElem?_eq_getElem hi⟩;have en:=List.mem_of_getElem? he;have jW:=vP hb.2.2.1 cB i;have hP:=G4 (hb.2.2.1.2 n en);simp only[BQ,cn hi,cond_true,cc,he,Option.bind_some,R3 n (hb.2.2.1.2 n en),oR cR he,b6 (i:=i) (by unfold am;omega)]
   generalize List.flatMap cR (List.take i p.bh)=A at jW ⊢;rw[eh (by simp;omega),Option.bind_some,eh (by simp;omega),Option.bind_some,eh (by simp;omega),Option.bind_some]
   simp only[cR,List.append_assoc]
  ·simp only[BQ,dr,cond_false,List.take_length]
 have jW:=vP hb.2.2.1 cB p.bh.length;rw[List.take_length] at jW;have h2:=zF (tk ao) hb.2.2.2 (j' ao);have bT:jf p=[112,97,99,107,32]++p.name++[32]++p.aW++[10]:=rfl;simp only[f201];repeat(rw[eh (by simp;omega),Option.bind_some])
 rw[<-bT,aw];simp only[Option.bind_some,du];generalize p.bh.flatMap cR=A at jW ⊢;rw[eh (by simp;omega),Option.bind_some,k_,Option.bind_some]
 generalize dm p.bK=bx at h2 ⊢;rw[eh (by simp;omega)]
 rfl
theorem HU(p:aT)(hb:k6 p)(hk:cT p=true):f148 (((p.name,(p.aW,(p.bh,(p.bK,())))),()),())=some ((bO p,()),()):=by
 have hl:=GB hb hk;have h1:=amw (du p) (by unfold q7;omega)
 have hs:=GZ (du p);simp only[f148,agI p hb hk,h1,Option.bind_some,bO];generalize qB (du p)=S at hs ⊢;generalize du p=bx at hl ⊢;rw[eh (by simp;omega),Option.bind_some,eh (by simp;omega),Option.bind_some,eh (by simp;omega)]
 rfl
theorem adw(p:aT)(hb:k6 p)(hk:cT p=true):f208 (((p.name,(p.aW,(p.bh,(p.bK,())))),()),())=some ((du p,()),()):=by
 obtain⟨_,_,hn,cB,_,ao⟩:=oO hk;have h3:=hb.1;have aE:=hb.2.1;have k_:=acG p.bK hb.2.2.2;rw[ao] at k_;have atM:(jf p).length<=4194320:=by unfold jf;simp;omega
 have aw:Hk (((),((),(p.bh,((p.bh.length:Int),((0:Int),()))))),((p.name,(p.aW,(p.bh,(p.bK,())))),(bytesOf (jf p),(((),((),())),()))))=some (((),((),())),((p.name,(p.aW,(p.bh,(p.bK,())))),(bytesOf (jf p++p.bh.flatMap cR),(((),((),())),())))):=by
  have:=gC (g:=AR) (fun i=>(((),((),(p.bh,((p.bh.length:Int),((i:Int),()))))),((p.name,(p.aW,(p.bh,(p.bK,())))),(bytesOf (jf p++(p.bh.take i).flatMap cR),(((),((),())),()))))) p.bh.length (b:=(((),((),())),((p.name,(p.aW,(p.bh,(p.bK,())))),(bytesOf (jf p++p.bh.flatMap cR),(((),((),())),()))))) (fun i hi=>?_) ?_ p.bh.length 0 (by omega)
  ·rw[List.take_zero,List.flatMap_nil,List.append_nil] at this;exact this
  ·obtain⟨n,he⟩:∃n,p.bh[i]? =some n:=⟨p.bh[i],List.getElem?_eq_getElem hi⟩;have en:=List.mem_of_getElem? he;have jW:=vP hb.2.2.1 cB i;have hP:=G4 (hb.2.2.1.2 n en);simp only[AR,cn hi,cond_true,cc,he,Option.bind_some,ae3 n (hb.2.2.1.2 n en) (hn n en),oR cR he,b6 (i:=i) (by unfold am;omega)]
   generalize List.flatMap cR (List.take i p.bh)=A at jW ⊢;rw[eh (by simp;omega),Option.bind_some,eh (by simp;omega),Option.bind_some,rL _ _ (by unfold am;rw[j_];simp;omega),Option.bind_some,<-List.append_assoc,rb (jf p++A)]
   rfl
  ·simp only[AR,dr,cond_false,List.take_length]
 have jW:=vP hb.2.2.1 cB p.bh.length;rw[List.take_length] at jW;have h2:=zF (tk ao) hb.2.2.2 (j' ao);have bT:jf p=[112,97,99,107,32]++p.name++[32]++p.aW++[10]:=rfl;simp only[f208];repeat(rw[eh (by simp;omega),Option.bind_some])
 rw[<-bT,rL _ _ (by unfold am;simp;omega),Option.bind_some]
 simp only[List.nil_append,aw,Option.bind_some,k_,cond_true,du];generalize p.bh.flatMap cR=A at jW ⊢;generalize dm p.bK=bx at h2 ⊢;rw[eh (by simp;omega),Option.bind_some,rL _ _ (by unfold am;rw[j_];simp;omega),Option.bind_some]
 rw[<-rb,zv,List.append_assoc _ [10] bx]
theorem O8(p:aT)(hb:k6 p):f155 (((p.name,(p.aW,(p.bh,(p.bK,())))),()),())=some ((bif cT p then bO p else [],()),()):=by
 have h0:=zN (((p.name,(p.aW,(p.bh,(p.bK,())))),()),()) hb;have h0:f74 (((p.name,(p.aW,(p.bh,(p.bK,())))),()),())=some ((cT p,()),()):=h0;simp only[f155,h0,Option.bind_some];cases hk:cT p with
 |false=>rfl
 |true=>
  have hl:=GB hb hk;have h1:=akM (du p) (by unfold q7;omega)
  have hs:=GZ (du p);simp only[Bool.not_true,cond_false,cond_true,adw p hb hk,h1,Option.bind_some,bO];generalize qB (du p)=S at hs ⊢;generalize du p=bx at hl ⊢;rw[eh (by simp;omega),Option.bind_some,eh (by simp;omega),Option.bind_some,eh (by simp;omega)]
  rfl
theorem afg{p:aT}(hb:k6 p)(hk:cT p=true):(fX (bO p)).length<=100663500:=by
 have h1:=RC hb hk;have h2:=oU (bO p).length (by omega)
 unfold fX;simp;omega
theorem abn{ps:List aT}(hb:ic ps)(hk:∀p,p∈ps->cT p=true)(i:Nat):((ps.take i).flatMap fun p=>fX (bO p)).length<=211106660352000:=by
 have h1:=wB (f:=fun p=>fX (bO p)) (xs:=ps.take i) (n:=100663500) fun p hp=>afg (hb.2 p (wi hp)) (hk p (wi hp))
 have h2:=(List.take_sublist i ps).length_le;have h3:ps.length<=2097152:=hb.1;have aE:(ps.take i).length*100663500<=2097152*100663500:=Nat.mul_le_mul_right _ (by omega)
 omega
theorem R1(ps:List aT)(hb:ic ps)(hk:∀p,p∈ps->cT p=true):f93 (((ps,()),()),())=some ((dT ps,()),()):=by
 have aw:JP (((),(([]:F),((0:Int),()))),((ps,()),()))=some ((dT ps,()),()):=by
  refine gC (g:=CE) (fun i=>(((),((ps.take i).flatMap (fun p=>fX (bO p)),((i:Int),()))),((ps,()),()))) ps.length (fun i hi=>?_) ?_ ps.length 0 (by omega)
  ·obtain⟨p,he⟩:∃p,ps[i]? =some p:=⟨ps[i],List.getElem?_eq_getElem hi⟩;have en:=List.mem_of_getElem? he;have jW:=abn hb hk i;have hP:=RC (hb.2 p en) (hk p en);have h2:=oU (bO p).length (by omega)
   have pz:=hb.1;simp only[CE,cn hi,cond_true,cc,he,Option.bind_some,HU p (hb.2 p en) (hk p en),HW (bO p).length (by omega),oR (fun p=>fX (bO p)) he,b6 (i:=i) (by unfold am;omega)]
   generalize List.flatMap (fun p=>fX (bO p)) (List.take i ps)=A at jW ⊢
   rw[eh (by omega),Option.bind_some,eh (by simp;omega),Option.bind_some,eh (by simp;omega),Option.bind_some]
   simp only[fX,List.append_assoc]
  ·simp only[CE,dr,cond_false,List.take_length];rfl
 simp only[f93,aw,Option.bind_some]
theorem vQ{ps:List aT}(h:kH ps=true):(∀p,p∈ps->cT p=true)/\ps.length<=5:=by
 unfold kH at h;simp only[Bool.and_eq_true,decide_eq_true_eq,List.all_eq_true] at h;exact⟨h.1.1.1.1,h.1.1.2⟩
def ck(c:UInt8)(s:F):Prop:=∀x,x∈s->x≠c
theorem ck.cm{c:UInt8}{s t:F}(h:ck c s)(k:ck c t):ck c (s++t):=fun x hx=>(List.mem_append.1 hx).elim (h x) (k x)
theorem ck.nil(c:UInt8):ck c []:=fun x hx=>by cases hx
theorem ck.tail{c b:UInt8}{s:F}(h:ck c (b::s)):ck c s:=fun x hx=>h x (List.mem_cons_of_mem _ hx)
theorem ck.head{c b:UInt8}{s:F}(h:ck c (b::s)):(b==c)=false:=by
 have:=h b List.mem_cons_self;simpa using this
theorem ck.lit{c:UInt8}{s:F}(h:s.all (fun x=>!(x==c))=true):ck c s:=fun x hx=>by
 have:=List.all_eq_true.1 h x hx;simpa using this
theorem P4{c:UInt8}:∀{s:F},ck c s->bQ c s=[s]:=by
 intro s;induction s with
 |nil=>intro _;rfl
 |cons b r ih=>
  intro h;unfold bQ;rw[h.head,ih h.tail];rfl
theorem OH(c b:UInt8)(r:F):bQ c (b::r)=bif b==c then []::bQ c r else match bQ c r with|x::xs=>(b::x)::xs|[]=>[[b]]:=rfl
theorem tc{c:UInt8}{b:F}:∀{a:F},ck c a->bQ c (a++c::b)=a::bQ c b:=by
 intro a;induction a with
 |nil=>intro _;show bQ c (c::b)=_;rw[OH,beq_self_eq_true];rfl
 |cons x r ih=>
  intro h;show bQ c (x::(r++c::b))=_;rw[OH,h.head,ih h.tail];rfl
theorem Pg{c x:UInt8}:∀{s:F},x∈s->x≠c->∃p,p∈bQ c s/\x∈p:=by
 intro s;induction s with
 |nil=>intro h;cases h
 |cons b r ih=>
  intro h hx;unfold bQ;cases hb:b==c with
  |true=>
   have hb:=eq_of_beq hb;rcases List.mem_cons.1 h with rfl|h
   ·exact absurd hb hx
   ·obtain⟨p,h1,h2⟩:=ih h hx;exact⟨p,List.mem_cons_of_mem _ h1,h2⟩
  |false=>
   simp only[cond_false];have hne:=rh c r;split
   ·rename_i y ys hy;rcases List.mem_cons.1 h with rfl|h
    ·exact⟨_,List.mem_cons_self,List.mem_cons_self⟩
    ·obtain⟨p,h1,h2⟩:=ih h hx;rw[hy] at h1;rcases List.mem_cons.1 h1 with rfl|h1
     ·exact⟨_,List.mem_cons_self,List.mem_cons_of_mem _ h2⟩
     ·exact⟨p,List.mem_cons_of_mem _ h1,h2⟩
   ·rename_i hy;exact absurd hy hne
def dv(c:UInt8):F->Option (F×F)
 |[]=>none
 |b::r=>bif b==c then some ([],r) else match dv c r with
  |some (x,y)=>some (b::x,y)
  |none=>none
theorem akh{c:UInt8}:∀{s:F},ck c s->dv c s=none:=by
 intro s;induction s with
 |nil=>intro _;rfl
 |cons b r ih=>intro h;simp only[dv,h.head,cond_false,ih h.tail]
theorem tA{c:UInt8}{b:F}:∀{a:F},ck c a->dv c (a++c::b)=some (a,b):=by
 intro a;induction a with
 |nil=>intro _;simp[dv]
 |cons x r ih=>intro h;show dv c (x::(r++c::b))=_;simp only[dv,h.head,cond_false,ih h.tail]
theorem jO{c:UInt8}:∀{s x y:F},dv c s=some (x,y)->s=x++c::y/\ck c x:=by
 intro s;induction s with
 |nil=>intro x y h;cases h
 |cons b r ih=>
  intro x y h;simp only[dv] at h;cases hb:b==c with
  |true=>
   rw[hb] at h;simp only[cond_true,Option.some.injEq,Prod.mk.injEq] at h;obtain⟨rfl,rfl⟩:=h;exact⟨by rw[eq_of_beq hb];rfl,ck.nil c⟩
  |false=>
   rw[hb] at h;simp only[cond_false] at h;split at h
   ·rename_i db y' hc;cases h;obtain⟨h1,h2⟩:=ih hc;refine⟨by rw[h1];rfl,fun z hz=>?_⟩
    rcases List.mem_cons.1 hz with rfl|hz
    ·simpa using hb
    ·exact h2 z hz
   ·cases h
theorem agw{c:UInt8}:∀{s:F},dv c s=none->ck c s:=by
 intro s;induction s with
 |nil=>intro _;exact ck.nil c
 |cons b r ih=>
  intro h;simp only[dv] at h;cases hb:b==c with
  |true=>rw[hb] at h;cases h
  |false=>
   rw[hb] at h;simp only[cond_false] at h;split at h
   ·cases h
   ·rename_i hc;intro z hz;rcases List.mem_cons.1 hz with rfl|hz
    ·simpa using hb
    ·exact ih hc z hz
theorem SY(c:UInt8):∀s:F,Lib.indexByte s c=match dv c s with|some (x,_)=>(x.length:Int)|none=>-1:=by
 intro s;induction s with
 |nil=>rfl
 |cons b r ih=>
  simp only[dv];unfold Lib.indexByte;cases hb:b==c with
  |true=>simp
  |false=>
   rw[ih];simp only[cond_false];cases hc:dv c r with
   |none=>simp
   |some q=>obtain⟨x,y⟩:=q;simp
theorem Ph(c:UInt8)(s:F):bQ c s=match dv c s with|some (x,y)=>x::bQ c y|none=>[s]:=by
 cases h:dv c s with
 |none=>exact P4 (agw h)
 |some q=>
  obtain⟨x,y⟩:=q;obtain⟨h1,h2⟩:=jO h;show bQ c s=x::bQ c y;rw[h1];exact tc h2
theorem Fh{s:F}(h:ju s=true):∀x,x∈s->(97<=x.toNat/\x.toNat<=122)\/(48<=x.toNat/\x.toNat<=57):=by
 cases s with
 |nil=>cases h
 |cons b r=>
  rw[OO] at h;simp only[Bool.and_eq_true] at h;intro x hx;have:=List.all_eq_true.1 h.1.2 x hx;simp only[jA,cU,Bool.or_eq_true,Bool.and_eq_true,decide_eq_true_eq] at this;omega
theorem Qm{s:F}(h:ju s=true){c:UInt8}(hc:c.toNat<48\/(57<c.toNat/\c.toNat<97)):ck c s:=fun x hx e=>by
 have:=Fh h x hx;rw[e] at this;omega
theorem abQ{s:F}(h:ev s=true):∀x,x∈s->x=46\/(48<=x.toNat/\x.toNat<=57):=by
 intro x hx;by_cases he:x=46
 ·exact .inl he
 ·obtain⟨p,h1,h2⟩:=Pg hx he;unfold ev iM at h;simp only[Bool.and_eq_true] at h;have:=List.all_eq_true.1 h.1 p h1;unfold fZ at this;simp only[Bool.and_eq_true] at this;have:=jr (List.all_eq_true.1 this.1.1.1.1 x h2);exact .inr (by omega)
theorem PJ{s:F}(h:ev s=true){c:UInt8}(hc:c.toNat<48\/57<c.toNat)(Y:c≠46):ck c s:=fun x hx e=>by
 rcases abQ h x hx with h1|h1
 ·exact Y (e▸h1)
 ·rw[e] at h1;omega
theorem Qn{s:F}(h:gU s=true){c:UInt8}(hc:kG c.toNat=false)(Y:c≠47):ck c s:=fun x hx e=>by
 subst e;obtain⟨p,h1,h2⟩:=Pg hx Y;unfold gU at h;simp only[Bool.and_eq_true] at h;have:=List.all_eq_true.1 h.1 p h1;unfold kP at this;simp only[Bool.and_eq_true] at this;have:=List.all_eq_true.1 this.1.1.1 x h2;rw[hc] at this;cases this
theorem Jl:∀n:Nat,(Lib.decDigits n).all cU=true:=by
 intro n;induction n using Nat.strongRecOn with
 |_ n ih=>
  have Y:∀m:Nat,m<10->cU (UInt8.ofNat (48+m))=true:=fun m hm=>by
   unfold cU;have:(UInt8.ofNat (48+m)).toNat=48+m:=by rw[UInt8.toNat_ofNat'];omega
   rw[this];simp;omega
  rw[Lib.decDigits];split
  ·rename_i h;show(cU _&&true)=true;rw[Y n h];rfl
  ·rename_i h;rw[List.all_append,ih (n/10) (by omega)]
   show(true&&(cU _&&true))=true;rw[Y (n%10) (by omega)];rfl
theorem Uf(n:Nat):Lib.decDigits n≠[]:=by
 rw[Lib.decDigits];split<;>simp
theorem Jj:∀n:Nat,df (Lib.decDigits n)=(n:Int):=by
 intro n;induction n using Nat.strongRecOn with
 |_ n ih=>
  have Y:∀m:Nat,m<10->((UInt8.ofNat (48+m)).toNat:Int)-48=(m:Int):=fun m hm=>by
   have:(UInt8.ofNat (48+m)).toNat=48+m:=by rw[UInt8.toNat_ofNat'];omega
   rw[this];omega
  rw[Lib.decDigits];split
  ·rename_i h;show ei 0 _=_;unfold ei;rw[Y n h];omega
  ·rename_i h;have:=ih (n/10) (by omega)
   unfold df at this ⊢;rw[List.foldl_append,this];show ei _ _=_;unfold ei;rw[Y (n%10) (by omega)];omega
theorem agv:∀n:Nat,1<=n->∃b r,Lib.decDigits n=b::r/\((b.toNat:Int)==48)=false:=by
 intro n;induction n using Nat.strongRecOn with
 |_ n ih=>
  intro hn;rw[Lib.decDigits];split
  ·rename_i h;refine⟨_,[],rfl,?_⟩;have:(UInt8.ofNat (48+n)).toNat=48+n:=by rw[UInt8.toNat_ofNat'];omega
   rw[this,beq_eq_false_iff_ne];omega
  ·rename_i h;obtain⟨b,r,h1,h2⟩:=ih (n/10) (by omega) (by omega)
   rw[h1];exact⟨b,_,rfl,h2⟩
theorem RS(n:Nat):iN (Lib.decDigits n)=false:=by
 by_cases h:n<10
 ·rw[Lib.decDigits,dif_pos h];rfl
 ·obtain⟨b,r,h1,h2⟩:=agv n (by omega)
  rw[h1];cases r with
  |nil=>rfl
  |cons x r=>exact h2
theorem HO:∀(k n:Nat),n<10^(k+1)->(Lib.decDigits n).length<=k+1:=by
 intro k;induction k with
 |zero=>intro n h;rw[Lib.decDigits,dif_pos (by omega)];simp
 |succ k ih=>
  intro n h;rw[Lib.decDigits];split
  ·simp
  ·have:=ih (n/10) (by rw[Nat.pow_succ] at h;omega)
   simp;omega
theorem alT(n:Nat){c:UInt8}(hc:c.toNat<48\/57<c.toNat):ck c (Lib.decDigits n):=fun x hx e=>by
 have:=jr (List.all_eq_true.1 (Jl n) x hx);rw[e] at this;omega
theorem SW(n:Nat){c:UInt8}(hc:c.toNat<48\/57<c.toNat):ck c (Lib.itoa (n:Int)):=by rw[rr];exact alT n hc
theorem akc:∀k:Nat,k<16->jX k≠10/\jX k≠32:=by decide
theorem SZ(w:Int):ck 10 (gq w):=fun x hx=>by
 simp only[gq,List.mem_cons,List.not_mem_nil,or_false] at hx;rcases hx with rfl|rfl|rfl|rfl|rfl|rfl|rfl|rfl<;>exact(akc _ (Nat.mod_lt _ (by decide))).1
theorem Sk(s:F):ck 10 (qB s):=(SZ _).cm (SZ _)
def iA:F:=[100,105,114]
def iy:F:=[108,105,110,107]
def iO:F:=[102,105,108,101]
def mS(e:aG):List F:=bif e.kind==1 then [iA,Lib.itoa e.mode,e.path] else bif e.kind==3 then [iy,e.path,e.text] else [iO,Lib.itoa e.mode,e.path,Lib.itoa (e.text.length:Int)]
def mg:List F->F
 |[]=>[]
 |[x]=>x
 |x::y::r=>x++32::mg (y::r)
def qv(e:aG):F:=mg (mS e)
theorem Pt:∀{ws:List F},ws≠[]->(∀w,w∈ws->ck 32 w)->bQ 32 (mg ws)=ws:=by
 intro ws;induction ws with
 |nil=>intro h;exact absurd rfl h
 |cons x r ih=>
  intro _ h;cases r with
  |nil=>exact P4 (h x List.mem_cons_self)
  |cons y r=>
   show bQ 32 (x++32::mg (y::r))=_;rw[tc (h x List.mem_cons_self),ih (by simp) fun w hw=>h w (List.mem_cons_of_mem _ hw)]
theorem SV{c:UInt8}(hc:c≠32):∀{ws:List F},(∀w,w∈ws->ck c w)->ck c (mg ws):=by
 intro ws;induction ws with
 |nil=>intro _;exact ck.nil c
 |cons x r ih=>
  intro h;cases r with
  |nil=>exact h x List.mem_cons_self
  |cons y r=>
   refine(h x List.mem_cons_self).cm fun z hz=>?_
   rcases List.mem_cons.1 hz with rfl|hz
   ·exact fun e=>hc e.symm
   ·exact ih (fun w hw=>h w (List.mem_cons_of_mem _ hw)) z hz
theorem aes{e:aG}(h:fh e=true):gU e.path=true:=by
 unfold fh at h;simp only[Bool.and_eq_true] at h;exact h.1
theorem FM{e:aG}(h:fh e=true)(hk:e.kind=3):gU e.text=true/\e.mode=0:=by
 unfold fh at h;rw[hk] at h;simp only[Bool.and_eq_true] at h;have h2:((e.mode==0)&&gU e.text)=true:=h.2;simp only[Bool.and_eq_true,beq_iff_eq] at h2;exact⟨h2.2,h2.1⟩
theorem QI{e:aG}(h:fh e=true)(hk:e.kind=1):e.text=[]:=by
 unfold fh at h;rw[hk] at h;simp only[Bool.and_eq_true] at h;have h2:(within e.mode 0 7&&e.text==[])=true:=h.2;simp only[Bool.and_eq_true] at h2;exact eq_of_beq h2.2
theorem Pz{e:aG}(h:fh e=true)(hk:e.kind=2):o8 e.text=true:=by
 unfold fh at h;rw[hk] at h;simp only[Bool.and_eq_true] at h;have h2:(within e.mode 0 7&&o8 e.text)=true:=h.2;simp only[Bool.and_eq_true] at h2;exact h2.2
theorem G7{e:aG}(h:fh e=true):∃n:Nat,e.mode=n/\n<=7:=by
 have:=HK h;obtain⟨n,hn⟩:=Int.eq_ofNat_of_zero_le this.1;exact⟨n,hn,by have:=this.2;omega⟩
theorem Cv{s:F}(h:gU s=true):ck 32 s:=Qn h (by decide) (by decide)
theorem Cw{s:F}(h:gU s=true):ck 10 s:=Qn h (by decide) (by decide)
theorem J2(n:Nat):ck 32 (Lib.itoa (n:Int)):=SW n (by decide)
theorem Cz(n:Nat):ck 10 (Lib.itoa (n:Int)):=SW n (by decide)
theorem FP{e:aG}(h:fh e=true):(∀w,w∈mS e->ck 32 w)/\∀w,w∈mS e->ck 10 w:=by
 obtain⟨n,hn,_⟩:=G7 h;have hp:=aes h;unfold mS;rw[hn];rcases vZ h with hk|hk|hk<;>rw[hk]
 ·refine⟨fun w hw=>?_,fun w hw=>?_⟩<;>have hw:w∈[iA,Lib.itoa (n:Int),e.path]:=hw<;>simp only[List.mem_cons,List.not_mem_nil,or_false] at hw<;>rcases hw with rfl|rfl|rfl
  ·exact ck.lit (by decide)
  ·exact J2 n
  ·exact Cv hp
  ·exact ck.lit (by decide)
  ·exact Cz n
  ·exact Cw hp
 ·refine⟨fun w hw=>?_,fun w hw=>?_⟩<;>have hw:w∈[iO,Lib.itoa (n:Int),e.path,Lib.itoa (e.text.length:Int)]:=hw<;>simp only[List.mem_cons,List.not_mem_nil,or_false] at hw<;>rcases hw with rfl|rfl|rfl|rfl
  ·exact ck.lit (by decide)
  ·exact J2 n
  ·exact Cv hp
  ·exact J2 _
  ·exact ck.lit (by decide)
  ·exact Cz n
  ·exact Cw hp
  ·exact Cz _
 ·have ao:=(FM h hk).1;refine⟨fun w hw=>?_,fun w hw=>?_⟩<;>have hw:w∈[iy,e.path,e.text]:=hw<;>simp only[List.mem_cons,List.not_mem_nil,or_false] at hw<;>rcases hw with rfl|rfl|rfl
  ·exact ck.lit (by decide)
  ·exact Cv hp
  ·exact Cv ao
  ·exact ck.lit (by decide)
  ·exact Cw hp
  ·exact Cw ao
theorem ah1{e:aG}(h:fh e=true):ck 10 (qv e):=SV (by decide) (FP h).2
def xr(e:aG)(r:F):F:=bif e.kind==2 then e.text++10::r else r
theorem ah0{e:aG}(h:fh e=true)(r:F):ey e++r=qv e++10::xr e r:=by
 unfold ey qv mS xr;rcases vZ h with hk|hk|hk<;>rw[hk]
 ·simp[mg,iA]
 ·simp[mg,iO]
 ·simp[mg,iy]
theorem Qu{e:aG}(h:fh e=true)(r:F):dv 10 (ey e++r)=some (qv e,xr e r):=by
 rw[ah0 h];exact tA (ah1 h)
def je:F:=[112,97,99,107]
def gl:F:=[110,101,101,100]
def eb(p:aT):F:=mg [je,p.name,p.aW]
theorem VF{s:F}(h:ju s=true):ck 32 s:=Qm h (by decide)
theorem VG{s:F}(h:ju s=true):ck 10 s:=Qm h (by decide)
theorem Vy{s:F}(h:ev s=true):ck 32 s:=PJ h (by decide) (by decide)
theorem Vz{s:F}(h:ev s=true):ck 10 s:=PJ h (by decide) (by decide)
theorem Fw{p:aT}(h:cT p=true):bQ 32 (eb p)=[je,p.name,p.aW]:=by
 obtain⟨h1,h2,_⟩:=oO h;refine Pt (by simp) fun w hw=>?_
 simp only[List.mem_cons,List.not_mem_nil,or_false] at hw;rcases hw with rfl|rfl|rfl
 ·exact ck.lit (by decide)
 ·exact VF h1
 ·exact Vy h2
theorem RL{p:aT}(h:cT p=true):ck 10 (eb p):=by
 obtain⟨h1,h2,_⟩:=oO h;refine SV (by decide) fun w hw=>?_
 simp only[List.mem_cons,List.not_mem_nil,or_false] at hw;rcases hw with rfl|rfl|rfl
 ·exact ck.lit (by decide)
 ·exact VG h1
 ·exact Vz h2
def jv(p:aT):F:=p.bh.flatMap cR++10::dm p.bK
theorem wC(p:aT):du p=eb p++10::jv p:=by
 unfold du jf eb jv;simp[mg,je]
theorem QR{p:aT}(h:cT p=true):dv 10 (du p)=some (eb p,jv p):=by rw[wC];exact tA (RL h)
def e6(p:aT):F:=[115,117,109,32]++qB (du p)
theorem wK(p:aT):bO p=e6 p++10::du p:=by unfold bO e6;simp
theorem ahJ(p:aT):dv 10 (bO p)=some (e6 p,du p):=by
 rw[wK];exact tA ((ck.lit (by decide)).cm (Sk _))
theorem zu{n:bG}(h:dB n=true):ju n.name=true/\((n.kind=0/\n.aW=[])\/((n.kind=1\/n.kind=2\/n.kind=3)/\ev n.aW=true)):=by
 unfold dB at h;simp only[Bool.and_eq_true,Bool.or_eq_true] at h;refine⟨h.1,?_⟩;rcases h.2 with h2|h2
 ·exact .inl ⟨eq_of_beq h2.1,eq_of_beq h2.2⟩
 ·exact .inr ⟨by have:=tr h2.1;omega,h2.2⟩
theorem SB{n:bG}(h:dB n=true):ck 10 (cS n):=by
 obtain⟨h1,h2⟩:=zu h;have hs:ck 10 (dN n.kind):=by unfold dN;cases n.kind==1<;>cases n.kind==2<;>cases n.kind==3<;>exact ck.lit (by decide)
 refine((VG h1).cm hs).cm ?_
 rcases h2 with⟨_,h2⟩|⟨_,h2⟩
 ·rw[h2];exact ck.nil _
 ·exact Vz h2
theorem afZ{n:bG}(h:dB n=true)(r:F):dv 10 (cR n++r)=some (gl++32::cS n,r):=by
 have:cR n++r=(gl++32::cS n)++10::r:=by unfold cR gl;simp
 rw[this];refine tA ((ck.lit (by decide)).cm fun z hz=>?_)
 rcases List.mem_cons.1 hz with rfl|hz
 ·decide
 ·exact SB h z hz
theorem JL(r:F):dv 10 (10::r)=some ([],r):=by simp[dv]
theorem afX{n:bG}{ns:List bG}{r:F}(h:dB n=true):dv 10 ((n::ns).flatMap cR++r)=some (gl++32::cS n,ns.flatMap cR++r):=by
 rw[List.flatMap_cons,List.append_assoc];exact afZ h _
theorem P5(s r:F):dv 10 (fX s++r)=some (Lib.itoa (s.length:Int),s++r):=by
 have:fX s++r=Lib.itoa (s.length:Int)++10::(s++r):=by unfold fX;simp
 rw[this];exact tA (Cz _)
def fO(m:Int)(s:F):Bool:=s.all cU&&!(s==[])&&!iN s&&decide (s.length<=9)&&decide (df s<=m)
theorem zM(s:F)(m:Int)(hs:am s.length):f151 ((s,(m,())),())=some ((bif fO m s then df s else 0,(fO m s,())),()):=by
 have key:s.length<=9->tx ((s,(m,((0:Int),((s.length:Int),((0:Int),()))))),())=some (bif allI (fun i x=>cU x) 0 s then .inr ((m,(df s,())),()) else .inl (((0:Int),(false,())),())):=by
  intro hC;have:=mN ry s (fun i n=>((s,(m,(n,((s.length:Int),((i:Int),()))))),())) (fun i x n=>some (bif cU x then .inl (ei n x) else .inr (.inl (((0:Int),(false,())),())))) (fun n=>.inr ((m,(n,())),()))
   (fun i n=>0<=n/\n<10^i/\(i<=9)) (0:Int) ⟨by decide,by decide,by decide⟩ (fun i x n hx dz=>?_) (fun n _=>?_)
  ·exact this.trans (by rw[zy];rfl)
  ·have hi:=dj hx;have hw:am i:=by unfold am at*;omega
   obtain⟨h0,h1,cB⟩:=dz;refine⟨?_,fun au ae=>?_⟩
   ·simp only[ry,cn hi,cond_true,zI,cc,hx,Option.bind_some,b6 hw,pM,oC,M1];cases Y:cU x with
    |false=>
     unfold cU at Y;by_cases aE:(48:Int)<=(x.toNat:Int)<;>by_cases br:(x.toNat:Int)<=57<;>simp[aE,br] at Y ⊢
    |true=>
     obtain⟨aE,br⟩:=jr Y;have:=F4 (i:=i) Y (by omega) h0 h1
     simp only[aE,br,decide_true,Bool.not_true,Bool.not_false,cond_true,cond_false,Option.bind_some,cc,hx,this,b6 hw,Bool.and_true,Option.map_some]
   ·simp only[Option.some.injEq] at ae;cases al:cU x with
    |false=>rw[al] at ae;cases ae
    |true=>
     rw[al] at ae;simp only[cond_true,Sum.inl.injEq] at ae;subst ae;have:=Fp al h0 h1;exact⟨this.1,this.2,by omega⟩
  ·simp only[ry,dr,cond_false]
 rw[hZ] at key;cases s with
 |nil=>rfl
 |cons b r=>
  have hb:aQ (b::r) 0=some b:=rfl;have he:((b::r)==([]:F))=false:=rfl;have hl:decide (((b::r).length:Int)>1)=!(r==[]):=by cases r<;>simp;omega
  have hC:decide (((b::r).length:Int)>9)=!decide ((b::r).length<=9):=by by_cases h:(b::r).length<=9<;>simp only[h,decide_true,decide_false,Bool.not_true,Bool.not_false,decide_eq_true_eq,decide_eq_false_iff_not]<;>omega
  have rY:iN (b::r)=(!(r==[])&&(b.toNat:Int)==48):=by cases r<;>rfl
  simp only[f151,BY,he,hl,hC,Bool.not_false,cond_true,Bool.not_not,hb,Option.bind_some];have fin:(b::r).length<=9->iN (b::r)=false->((tx ((b::r,(m,((0:Int),(((b::r).length:Int),((0:Int),()))))),())).bind fun KJ=>match KJ with
    |.inl xJ=>some ((xJ.1.1,(xJ.1.2.1,())),())
    |.inr sa=>bif decide (sa.1.2.1>sa.1.1) then some (((0:Int),(false,())),()) else some ((sa.1.2.1,(true,())),()))=
    some ((bif fO m (b::r) then df (b::r) else 0,(fO m (b::r),())),()):=by
   intro hC kt;rw[key hC];unfold fO;rw[he,kt];cases Y:List.all (b::r) cU with
   |false=>rfl
   |true=>
    simp only[cond_true,Option.bind_some,Bool.not_false,Bool.true_and,oC];simp only[hC,decide_true,Bool.true_and];cases decide (df (b::r)<=m)<;>rfl
  by_cases al:(b::r).length<=9
  ·simp only[al,decide_true,cond_true];cases hr:(r==[]) with
   |true=>
    simp only[Bool.not_true,cond_false,Option.bind_some];exact fin al (by rw[rY,hr];rfl)
   |false=>
    simp only[Bool.not_false,cond_true,Option.bind_some];cases qX:((b.toNat:Int)==48) with
    |true=>
     have:fO m (b::r)=false:=by unfold fO;rw[rY,hr,qX];simp
     rw[this];rfl
    |false=>
     simp only[cond_false];exact fin al (by rw[rY,hr,qX];rfl)
  ·have:fO m (b::r)=false:=by
    unfold fO;rw[decide_eq_false al];simp
   simp only[al,decide_false,cond_false,Option.bind_some,cond_true,this]
theorem ahO{n:Nat}{m:Int}(h:(n:Int)<=m)(hC:n<1000000000):fO m (Lib.decDigits n)=true:=by
 unfold fO;have h1:(Lib.decDigits n==[])=false:=by simpa using Uf n
 have h2:=HO 8 n (by omega)
 rw[Jl,h1,RS,Jj,decide_eq_true h2,decide_eq_true h];rfl
theorem aeg(n:Nat)(h:n<1000000):f90 ((Lib.itoa (n:Int),()),())=some (((n:Int),()),()):=by
 have h1:(Lib.decDigits n==[])=false:=by simpa using Uf n
 have h2:=HO 5 n (by omega)
 have:=HV ((Lib.decDigits n,()),()) (show am (Lib.decDigits n).length by unfold am;omega)
 have this:f90 ((Lib.decDigits n,()),())=some ((bif(Lib.decDigits n).all cU&&decide ((Lib.decDigits n).length<=6)&&!(Lib.decDigits n==[])&&!iN (Lib.decDigits n) then df (Lib.decDigits n) else-1,()),()):=this
 rw[rr,this,Jl,decide_eq_true h2,h1,RS,Jj];rfl
def rP{aB:Type}(D:Option aB)(R:aB->Prop):Prop:=∀a,D=some a <-> R a
theorem rP.aoN{aB:Type}{D cW:Option aB}{R:aB->Prop}(h:rP D R)(ae:rP cW R):D=cW:=by
 cases D with
 |some a=>exact((ae a).2 ((h a).1 rfl)).symm
 |none=>
  cases cW with
  |none=>rfl
  |some a=>exact(h a).2 ((ae a).1 rfl)
noncomputable abbrev aqG:bl:=[(238,Lw)]
theorem arC:bc Z (bi ak aqG):=bj ⟨Vr,⟨⟩⟩
abbrev i203:Shape:=⟨[aq 0,aq 1],[],23⟩
abbrev Wq:Shape:=⟨[aq 4,aq 5,aC 6],[],23⟩
noncomputable def f203(a:i203.J):Option Wq.J:=
(f238 ((a.1.1,a.1.2.1,()),())).bind fun b=>
 bif(decide (b.1.1>=(0:Int))) then
(bD a.1.1 (0:Int) b.1.1).bind fun c=>
(bD a.1.1 (IntKind.i64.wrap (b.1.1+(a.1.2.1.length:Int))) (a.1.1.length:Int)).bind fun d=>
 some ((c,d,true,()),())
else
 some ((a.1.1,([]:F),false,()),())
noncomputable def Yj:aK:=a6 ak Tryz.f203 i203 Wq [] f203
theorem z203:aL Z 203 Yj:=ba arC Tryz.func203 (by kernel_rfl) aj (fun y=>by kernel_rfl) fun a=>by kernel_rfl
noncomputable abbrev aq1:bl:=[(203,Yj)]
theorem arK:bc Z (bi ak aq1):=bj ⟨z203,⟨⟩⟩
abbrev i150:Shape:=⟨[aq 0,aq 1],[],13⟩
abbrev WN:Shape:=⟨[aq 4,aq 5,aC 6],[],13⟩
noncomputable def f150(a:i150.J):Option WN.J:=
(f203 ((a.1.1,a.1.2.1,()),())).bind fun b=>
 some ((b.1.1,b.1.2.1,b.1.2.2.1,()),())
noncomputable def x5:aK:=a6 ak Tryz.f150 i150 WN [] f150
theorem Du:aL Z 150 x5:=ba arK Tryz.func150 (by kernel_rfl) aj (fun y=>by kernel_rfl) fun a=>by kernel_rfl
noncomputable def Vf:aK:=Jo
theorem amk:aL Z 276 Vf:=acw (fn:=Tryz.f276) (by kernel_rfl) (by kernel_rfl) (by kernel_rfl) (by kernel_rfl) (by kernel_rfl)
noncomputable abbrev aqo:bl:=[(241,DP),(276,Vf)]
theorem YZ:bc Z (bi ak aqo):=bj ⟨Kz,amk,⟨⟩⟩
abbrev A8:Shape:=⟨[aq 0,aq 1,ad 5],[],34⟩
abbrev H7:List aR:=[(.ret,⟨[ad 4],[],34⟩)]
noncomputable def aj9(y:A8.J):bR A8 H7:=
(f241 ((y.1.1,y.1.2.1,()),())).bind fun a=>
 bif(a.1.1==((-1):Int)) then
 some (.inr ((y.1.2.2.1,()),()))
else
(bD y.1.1 (IntKind.i64.wrap (a.1.1+(y.1.2.1.length:Int))) (y.1.1.length:Int)).bind fun b=>
 some (.inl ((b,y.1.2.1,(IntKind.i64.wrap (y.1.2.2.1+(1:Int))),()),()))
noncomputable def SR:A8.J->Option (aF H7):=bu aj9
theorem ai9:aX Z (ap (codeOf Tryz.f240) 1 62) (bb A8 H7 SR):=bW YZ (by kernel_rfl) aj fun y=>by kernel_rfl
abbrev i240:Shape:=⟨[aq 0,aq 1],[],34⟩
abbrev V7:Shape:=⟨[ad 4],[],34⟩
noncomputable def f240(a:i240.J):Option V7.J:=
 bif((a.1.2.1.length:Int)==(0:Int)) then
 none
else
 bif((a.1.2.1.length:Int)==(1:Int)) then
(aQ a.1.2.1 (0:Int)).bind fun b=>
(some ()).bind fun c=>
 some ((((Lib.countByte a.1.1 (b.toNat:Int).toNat.toUInt8:Nat):Int),()),())
else
(SR ((a.1.1,a.1.2.1,(0:Int),()),())).bind fun d=>
 some ((d.1.1,()),())
noncomputable def X2:aK:=a6 ak Tryz.f240 i240 V7 [] f240
theorem anX:aL Z 240 X2:=ba YZ Tryz.func240 (by kernel_rfl) (bd ai9 aj) (fun y=>by kernel_rfl) fun a=>by kernel_rfl
noncomputable abbrev aqF:bl:=[(240,X2),(241,DP)]
theorem LP:bc Z (bi ak aqF):=bj ⟨anX,Kz,⟨⟩⟩
abbrev Ss:Shape:=⟨[aq 0,aq 1,ad 2,ad 3],[],66⟩
abbrev Sd:List aR:=[(.norm,⟨[aq 0,aq 1,ad 2,ad 3],[],66⟩)]
noncomputable def BP(y:Ss.J):Option (aF Sd):=
 bif(decide (y.1.2.2.2.1<(0:Int))) then
(f240 ((y.1.1,y.1.2.1,()),())).bind fun a=>
 some ((y.1.1,y.1.2.1,y.1.2.2.1,(IntKind.i64.wrap (a.1.1+(1:Int))),()),())
else
 some ((y.1.1,y.1.2.1,y.1.2.2.1,y.1.2.2.2.1,()),())
theorem aji:aX Z (ap (codeOf Tryz.f204) 1 30) (bb Ss Sd BP):=c8 LP (by kernel_rfl) aj fun y=>by kernel_rfl
abbrev zZ:Shape:=⟨[aq 0,aq 1,ad 2,ad 3,a' 9 3000576,ad 10],[bg 3000576 .str 9 0],66⟩
abbrev FY:List aR:=[(.exit 0,⟨[aq 0,a' 9 3000576,ad 10],[bg 3000576 .str 9 0],66⟩)]
noncomputable def Ae(y:zZ.J):bR zZ FY:=
 bif(decide (y.1.2.2.2.2.2.1<y.1.2.2.2.1)) then
(f241 ((y.1.1,y.1.2.1,()),())).bind fun a=>
 bif(decide (a.1.1<(0:Int))) then
 some (.inr ((y.1.1,(),y.1.2.2.2.2.2.1,()),y.2.1,()))
else
(bD y.1.1 (0:Int) (IntKind.i64.wrap (a.1.1+y.1.2.2.1))).bind fun b=>
(aU y.2.1.length y.1.2.2.2.2.2.1).bind fun c=>
((y.2.1[c]?).bind fun q=>some b).bind fun d=>
(bD y.1.1 (IntKind.i64.wrap (a.1.1+(y.1.2.1.length:Int))) (y.1.1.length:Int)).bind fun e=>
 some (.inl ((e,y.1.2.1,y.1.2.2.1,y.1.2.2.2.1,(),(IntKind.i64.wrap (y.1.2.2.2.2.2.1+(1:Int))),()),(y.2.1.set c d),()))
else
 some (.inr ((y.1.1,(),y.1.2.2.2.2.2.1,()),y.2.1,()))
noncomputable def v_:zZ.J->Option (aF FY):=bu Ae
theorem afD:aX Z (ap (codeOf Tryz.f204) 1 2044) (bb zZ FY v_):=bW LP (by kernel_rfl) aj fun y=>by kernel_rfl
abbrev i204:Shape:=⟨[aq 0,aq 1,ad 2,ad 3],[],66⟩
abbrev Wp:Shape:=⟨[aM 8 .str],[],66⟩
noncomputable def f204(a:i204.J):Option Wp.J:=
 bif(a.1.2.2.2.1==(0:Int)) then
 some ((([]:List F),()),())
else
 bif(a.1.2.1==([]:F)) then
 none
else
(BP ((a.1.1,a.1.2.1,a.1.2.2.1,a.1.2.2.2.1,()),())).bind fun b=>
(j2 16 (nf b.1.2.2.2.1 (IntKind.i64.wrap ((b.1.1.length:Int)+(1:Int)))) (nf b.1.2.2.2.1 (IntKind.i64.wrap ((b.1.1.length:Int)+(1:Int)))) ([]:F)).bind fun c=>
(v_ ((b.1.1,b.1.2.1,b.1.2.2.1,(IntKind.i64.wrap ((nf b.1.2.2.2.1 (IntKind.i64.wrap ((b.1.1.length:Int)+(1:Int))))-(1:Int))),(),(0:Int),()),c,())).bind fun d=>
(aU d.2.1.length d.1.2.2.1).bind fun e=>
((d.2.1[e]?).bind fun q=>some d.1.1).bind fun f=>
(bD (d.2.1.set e f) (0:Int) (IntKind.i64.wrap (d.1.2.2.1+(1:Int)))).bind fun g=>
 some ((g,()),())
noncomputable def LA:aK:=a6 ak Tryz.f204 i204 Wp [] f204
theorem Vs:aL Z 204 LA:=ba LP Tryz.func204 (by kernel_rfl) (bd aji (bd afD aj)) (fun y=>by kernel_rfl) fun a=>by kernel_rfl
noncomputable abbrev aq0:bl:=[(204,LA)]
theorem arJ:bc Z (bi ak aq0):=bj ⟨Vs,⟨⟩⟩
abbrev i152:Shape:=⟨[aq 0,aq 1],[],8⟩
abbrev WL:Shape:=⟨[aM 4 .str],[],8⟩
noncomputable def f152(a:i152.J):Option WL.J:=
(f204 ((a.1.1,a.1.2.1,(0:Int),((-1):Int),()),())).bind fun b=>
 some ((b.1.1,()),())
noncomputable def YC:aK:=a6 ak Tryz.f152 i152 WL [] f152
theorem z152:aL Z 152 YC:=ba arJ Tryz.func152 (by kernel_rfl) aj (fun y=>by kernel_rfl) fun a=>by kernel_rfl
abbrev i277:Shape:=⟨[aq 0,aq 1],[],18⟩
abbrev VR:Shape:=⟨[aC 4],[],18⟩
noncomputable def f277(a:i277.J):Option VR.J:=
 bif(decide ((a.1.1.length:Int)>=(a.1.2.1.length:Int))) then
(bD a.1.1 (0:Int) (a.1.2.1.length:Int)).bind fun b=>
 some (((b==a.1.2.1),()),())
else
 some ((false,()),())
noncomputable def Lv:aK:=a6 ak Tryz.f277 i277 VR [] f277
theorem Vq:aL Z 277 Lv:=ba g0 Tryz.func277 (by kernel_rfl) aj (fun y=>by kernel_rfl) fun a=>by kernel_rfl
noncomputable abbrev aqm:bl:=[(277,Lv)]
theorem arq:bc Z (bi ak aqm):=bj ⟨Vq,⟨⟩⟩
abbrev i242:Shape:=⟨[aq 0,aq 1],[],15⟩
abbrev V5:Shape:=⟨[aq 4,aC 5],[],15⟩
noncomputable def f242(a:i242.J):Option V5.J:=
(f277 ((a.1.1,a.1.2.1,()),())).bind fun b=>
 bif(!b.1.1) then
 some ((a.1.1,false,()),())
else
(bD a.1.1 (a.1.2.1.length:Int) (a.1.1.length:Int)).bind fun c=>
 some ((c,true,()),())
noncomputable def X1:aK:=a6 ak Tryz.f242 i242 V5 [] f242
theorem anW:aL Z 242 X1:=ba arq Tryz.func242 (by kernel_rfl) aj (fun y=>by kernel_rfl) fun a=>by kernel_rfl
noncomputable abbrev aqE:bl:=[(242,X1)]
theorem arB:bc Z (bi ak aqE):=bj ⟨anW,⟨⟩⟩
abbrev i205:Shape:=⟨[aq 0,aq 1],[],11⟩
abbrev Wo:Shape:=⟨[aq 4,aC 5],[],11⟩
noncomputable def f205(a:i205.J):Option Wo.J:=
(f242 ((a.1.1,a.1.2.1,()),())).bind fun b=>
 some ((b.1.1,b.1.2.1,()),())
noncomputable def Yi:aK:=a6 ak Tryz.f205 i205 Wo [] f205
theorem an7:aL Z 205 Yi:=ba arB Tryz.func205 (by kernel_rfl) aj (fun y=>by kernel_rfl) fun a=>by kernel_rfl
noncomputable abbrev aql:bl:=[(277,Lv)]
theorem arp:bc Z (bi ak aql):=bj ⟨Vq,⟨⟩⟩
abbrev i244:Shape:=⟨[aq 0,aq 1],[],8⟩
abbrev V4:Shape:=⟨[aC 4],[],8⟩
noncomputable def f244(a:i244.J):Option V4.J:=
(f277 ((a.1.1,a.1.2.1,()),())).bind fun b=>
 some ((b.1.1,()),())
noncomputable def X0:aK:=a6 ak Tryz.f244 i244 V4 [] f244
theorem anV:aL Z 244 X0:=ba arp Tryz.func244 (by kernel_rfl) aj (fun y=>by kernel_rfl) fun a=>by kernel_rfl
noncomputable abbrev aqk:bl:=[(204,LA)]
theorem aro:bc Z (bi ak aqk):=bj ⟨Vs,⟨⟩⟩
abbrev i245:Shape:=⟨[aq 0,aq 1,ad 2],[],11⟩
abbrev V3:Shape:=⟨[aM 6 .str],[],11⟩
noncomputable def f245(a:i245.J):Option V3.J:=
(f204 ((a.1.1,a.1.2.1,(0:Int),a.1.2.2.1,()),())).bind fun b=>
 some ((b.1.1,()),())
noncomputable def XZ:aK:=a6 ak Tryz.f245 i245 V3 [] f245
theorem anU:aL Z 245 XZ:=ba aro Tryz.func245 (by kernel_rfl) aj (fun y=>by kernel_rfl) fun a=>by kernel_rfl
def ia(c:UInt8)(s:F):F:=match dv c s with|some (x,_)=>x|none=>s
def h'(c:UInt8)(s:F):F:=match dv c s with|some (_,y)=>y|none=>[]
theorem QV(c:UInt8)(r:F):f238 ((r,([c],())),())=some ((Lib.indexByte r c,()),()):=by
 have h0:aQ ([c]:F) (0:Int)=some c:=rfl;have h1:((([c]:F).length:Int)==0)=false:=rfl;have h2:((([c]:F).length:Int)==1)=true:=rfl;have h3:((c.toNat:Int)).toNat.toUInt8=c:=by simp
 simp only[f238,BL,f271,h0,h1,h2,h3,Bool.not_false,cond_true,cond_false,Option.bind_some,Option.bind];by_cases h:(([c]:F)==r)=true
 ·have:r=[c]:=(by simpa using h:[c]=r).symm
  subst this;simp[Lib.indexByte]<;>rfl
 ·simp[h]<;>rfl
theorem n8(c:UInt8)(s:F)(hs:am s.length):f150 ((s,([c],())),())=some ((ia c s,(h' c s,((dv c s).isSome,()))),()):=by
 have hi:=QV c s;rw[SY] at hi;unfold ia h';simp only[f150,f203,hi,Option.bind_some];cases h:dv c s with
 |none=>rfl
 |some q=>
  obtain⟨x,y⟩:=q;obtain⟨h1,_⟩:=jO h;have hl:s.length=x.length+1+y.length:=by rw[h1];simp;omega
  have Y:decide (((x.length:Nat):Int)>=0)=true:=decide_eq_true (by omega)
  have hw:IntKind.i64.wrap (((x.length:Nat):Int)+((([c]:F).length:Nat):Int))=((x.length+1:Nat):Int):=by
   rw[c' (by simp;omega) (by unfold am at hs;simp;omega)];simp
  have e1:bD s 0 ((x.length:Nat):Int)=some x:=by rw[iJ (by omega),h1];simp
  have e2:bD s ((x.length+1:Nat):Int) ((s.length:Nat):Int)=some y:=by
   rw[hI (by omega)]
   congr 1
   rw[h1,show x++c::y=(x++[c])++y by simp,List.drop_left' (by simp)]
  simp only[Y,cond_true,e1,hw,e2,Option.bind_some,Option.isSome_some]
def dZ(p s:F):Option F:=bif decide (p.length<=s.length)&&s.take p.length==p then some (s.drop p.length) else none
theorem OA(s p:F):f277 ((s,(p,())),())=some (((dZ p s).isSome,()),()):=by
 have Y:decide (((s.length:Nat):Int)>=((p.length:Nat):Int))=decide (p.length<=s.length):=by congr 1;apply propext;omega
 unfold dZ;simp only[f277,Y];cases h:decide (p.length<=s.length) with
 |false=>rfl
 |true=>
  rw[cond_true,iJ (of_decide_eq_true h)];simp only[Option.bind_some,Bool.true_and];cases (s.take p.length==p)<;>rfl
theorem abY(s p:F):f244 ((s,(p,())),())=some (((dZ p s).isSome,()),()):=by
 have:=OA s p;simp only[f244,this,Option.bind_some]
theorem OB(s p:F):f205 ((s,(p,())),())=some (((dZ p s).getD s,((dZ p s).isSome,())),()):=by
 have h0:=OA s p;simp only[f205,f242,h0,Option.bind_some];unfold dZ;cases h:decide (p.length<=s.length)&&s.take p.length==p with
 |false=>rfl
 |true=>
  simp only[Bool.and_eq_true,decide_eq_true_eq] at h;have e:bD s ((p.length:Nat):Int) ((s.length:Nat):Int)=some (s.drop p.length):=hI h.1;simp only[cond_true,Option.isSome_some,Bool.not_true,cond_false,e,Option.bind_some,Option.getD_some]
theorem wg(p r:F):dZ p (p++r)=some r:=by
 unfold dZ;rw[decide_eq_true (by simp)]
 simp
def splitN(c:UInt8):Nat->F->List F
 |0,s=>[s]
 |k+1,s=>match dv c s with
  |some (x,y)=>x::splitN c k y
  |none=>[s]
theorem zA(c:UInt8):∀(k:Nat) (s:F),(bQ c s).length<=k+1->splitN c k s=bQ c s:=by
 intro k;induction k with
 |zero=>
  intro s h;rw[Ph] at h ⊢;cases hc:dv c s with
  |none=>rfl
  |some q=>
   obtain⟨x,y⟩:=q;rw[hc] at h;have:=rh c y;cases hy:bQ c y with
   |nil=>exact absurd hy this
   |cons z zs=>simp[hy] at h
 |succ k ih=>
  intro s h;rw[Ph] at h ⊢;unfold splitN;cases hc:dv c s with
  |none=>rfl
  |some q=>
   obtain⟨x,y⟩:=q;rw[hc] at h;simp only[List.length_cons] at h;show x::splitN c k y=x::bQ c y;rw[ih y (by omega)]
theorem Pe(c:UInt8)(k:Nat)(s:F):1<=(splitN c k s).length:=by
 cases k with
 |zero=>simp[splitN]
 |succ k=>unfold splitN;split<;>simp
theorem zz(c:UInt8):∀(k:Nat) (s:F),s.length<=k->splitN c k s=bQ c s:=fun k s h=>zA c k s (by have:=tb c s;omega)
theorem G2{aB:Type}:∀(a:List aB) (i:Nat) (x:aB),i<a.length->(a.set i x).take (i+1)=a.take i++[x]:=by
 intro a;induction a with
 |nil=>intro i x h;simp at h
 |cons b a ih=>
  intro i x h;cases i with
  |zero=>rfl
  |succ i=>
   have:=ih i x (by simpa using h)
   simp only[List.set_cons_succ,List.take_succ_cons,List.cons_append,this]
theorem S1(c:UInt8)(N:Nat)(ef:am N):∀(m i:Nat) (s:F) (a:List F),i+m+1=N->a.length=N->am s.length->s.length+i<=1099511627776->
  ∃(au:F) (j:Nat) (cP:List F),v_ ((s,([c],((0:Int),(((N-1:Nat):Int),((),((i:Int),())))))),(a,()))=some ((au,((),((j:Int),()))),(cP,()))/\j<N/\cP.length=N/\(cP.set j au).take (j+1)=a.take i++splitN c m s:=by
 intro m;induction m with
 |zero=>
  intro i s a hi ha hs _;refine⟨s,i,a,cx ?_,by omega,ha,?_⟩
  ·have:decide ((i:Int)<((N-1:Nat):Int))=false:=decide_eq_false (by omega)
   simp only[Ae,this,cond_false]
  ·rw[G2 a i s (by omega)];rfl
 |succ m ih=>
  intro i s a hi ha hs hb;have hlt:decide ((i:Int)<((N-1:Nat):Int))=true:=decide_eq_true (by omega)
  have hx:=QV c s;have hx:f241 ((s,([c],())),())=some ((Lib.indexByte s c,()),()):=by simp only[f241,hx,Option.bind_some]
  rw[SY] at hx;cases hc:dv c s with
  |none=>
   rw[hc] at hx;refine⟨s,i,a,cx ?_,by omega,ha,?_⟩
   ·have:decide ((-1:Int)<0)=true:=rfl;simp only[Ae,hlt,cond_true,hx,Option.bind_some,this]
   ·rw[G2 a i s (by omega)];simp only[splitN,hc]
  |some q=>
   obtain⟨x,y⟩:=q;rw[hc] at hx;obtain⟨h1,_⟩:=jO hc;have hl:s.length=x.length+1+y.length:=by rw[h1];simp;omega
   obtain⟨au,j,cP,g1,g2,g3,g4⟩:=ih (i+1) y (a.set i x) (by omega) (by simp[ha]) (by unfold am at hs ⊢;omega) (by omega)
   refine⟨au,j,cP,?_,g2,g3,?_⟩
   ·refine(dL ?_).trans g1;have Y:decide (((x.length:Nat):Int)<0)=false:=decide_eq_false (by omega)
    have O:IntKind.i64.wrap (((x.length:Nat):Int)+0)=((x.length:Nat):Int):=by unfold am at hs;rw[c' (by omega) (by omega)];omega
    have aP:IntKind.i64.wrap (((x.length:Nat):Int)+((([c]:F).length:Nat):Int))=((x.length+1:Nat):Int):=by
     unfold am at hs;rw[c' (by simp;omega) (by simp;omega)];simp
    have e1:bD s 0 ((x.length:Nat):Int)=some x:=by rw[iJ (by omega),h1];simp
    have e2:bD s ((x.length+1:Nat):Int) ((s.length:Nat):Int)=some y:=by
     rw[hI (by omega)]
     congr 1
     rw[h1,show x++c::y=(x++[c])++y by simp,List.drop_left' (by simp)]
    have bp:aU a.length (i:Int)=some i:=gg (by omega)
    have dU:a[i]? =some (a[i]'(by omega)):=List.getElem?_eq_getElem (by omega)
    simp only[Ae,hlt,cond_true,hx,Option.bind_some,Y,cond_false,O,e1,bp,dU,aP,e2,b6 (i:=i) (by unfold am;omega)]
   ·rw[g4,G2 a i x (by omega)]
    simp only[splitN,hc,List.append_assoc,List.cons_append,List.nil_append]
theorem adm(c:UInt8):∀s:F,(bQ c s).length=Lib.countByte s c+1:=by
 intro s;induction s with
 |nil=>rfl
 |cons b r ih=>
  unfold bQ Lib.countByte;rw[List.count_cons];unfold Lib.countByte at ih;cases hb:b==c with
  |true=>simp[ih]
  |false=>
   simp only[cond_false];have hne:=rh c r;cases hy:bQ c r with
   |nil=>exact absurd hy hne
   |cons y ys=>rw[hy] at ih;simpa using ih
theorem adB(c:UInt8)(s:F)(n N:Nat)(hs:s.length<=1000000000)(h1:1<=n)(ef:min n (s.length+1)=N):
  f204 ((s,([c],((0:Int),((n:Int),())))),())=some ((splitN c (N-1) s,()),()):=by
 have sD:((n:Int)==0)=false:=by rw[beq_eq_false_iff_ne];omega
 have hc0:(([c]:F)==[])=false:=rfl;have hneg:decide ((n:Int)<0)=false:=decide_eq_false (by omega)
 have hw:IntKind.i64.wrap (((s.length:Nat):Int)+1)=((s.length+1:Nat):Int):=by rw[c' (by omega) (by omega)];omega
 have hm:nf (n:Int) ((s.length+1:Nat):Int)=(N:Int):=by unfold nf;split<;>omega
 have ME:j2 16 (N:Int) (N:Int) ([]:F)=some (List.replicate N []):=TU (by decide) (by unfold am;omega)
 have hw1:IntKind.i64.wrap ((N:Int)-1)=((N-1:Nat):Int):=by rw[c' (by omega) (by omega)];omega
 obtain⟨au,j,cP,g1,g2,g3,g4⟩:=S1 c N (by unfold am;omega) (N-1) 0 s (List.replicate N []) (by omega) (by simp) (by unfold am;omega) (by omega)
 have g1:v_ ((s,([c],((0:Int),(((N-1:Nat):Int),((),((0:Int),())))))),(List.replicate N ([]:F),()))=_:=g1;have e1:aU cP.length (j:Int)=some j:=gg (by omega)
 have e2:cP[j]? =some (cP[j]'(by omega)):=List.getElem?_eq_getElem (by omega)
 have bp:bD (cP.set j au) 0 ((j+1:Nat):Int)=some (splitN c (N-1) s):=by
  rw[iJ (by simp;omega),g4];simp
 simp only[f204,sD,hc0,cond_false,BP,hneg,Option.bind_some,hw,hm,ME,hw1,g1,e1,e2,b6 (i:=j) (by unfold am;omega),bp]
theorem PL(s:F)(hs:s.length<=1000000000):f245 ((s,([32],((5:Int),()))),())=some ((splitN 32 4 s,()),()):=by
 have h:=adB 32 s 5 _ hs (by decide) rfl
 have h:f204 ((s,(([32]:F),((0:Int),((5:Int),())))),())=_:=h;simp only[f245,h,Option.bind_some];congr 3
 by_cases aE:4<=s.length
 ·rw[show min 5 (s.length+1)-1=4 by omega]
 ·rw[zz 32 _ s (by omega),zz 32 4 s (by omega)]
theorem PM(s:F)(hs:s.length<=1000000000):f152 ((s,([32],())),())=some ((bQ 32 s,()),()):=by
 have hcs:=adm 32 s;have hl:=tb 32 s;have sD:((-1:Int)==0)=false:=rfl;have hc0:(([32]:F)==[])=false:=rfl;have hneg:decide ((-1:Int)<0)=true:=rfl;have apJ:f240 ((s,(([32]:F),())),())=some (((Lib.countByte s 32:Int),()),()):=rfl;have Ek:IntKind.i64.wrap ((Lib.countByte s 32:Int)+1)=(((bQ 32 s).length:Nat):Int):=by rw[c' (by omega) (by omega)];omega
 have hw:IntKind.i64.wrap (((s.length:Nat):Int)+1)=((s.length+1:Nat):Int):=by rw[c' (by omega) (by omega)];omega
 generalize ef:(bQ 32 s).length=N at Ek hcs hl;have hm:nf (N:Int) ((s.length+1:Nat):Int)=(N:Int):=by unfold nf;split<;>omega
 have ME:j2 16 (N:Int) (N:Int) ([]:F)=some (List.replicate N []):=TU (by decide) (by unfold am;omega)
 have hw1:IntKind.i64.wrap ((N:Int)-1)=((N-1:Nat):Int):=by rw[c' (by omega) (by omega)];omega
 obtain⟨au,j,cP,g1,g2,g3,g4⟩:=S1 32 N (by unfold am;omega) (N-1) 0 s (List.replicate N []) (by omega) (by simp) (by unfold am;omega) (by omega)
 have g1:v_ ((s,(([32]:F),((0:Int),(((N-1:Nat):Int),((),((0:Int),())))))),(List.replicate N ([]:F),()))=_:=g1;have e1:aU cP.length (j:Int)=some j:=gg (by omega)
 have e2:cP[j]? =some (cP[j]'(by omega)):=List.getElem?_eq_getElem (by omega)
 have bp:bD (cP.set j au) 0 ((j+1:Nat):Int)=some (bQ 32 s):=by
  rw[iJ (by simp;omega),g4,zA 32 (N-1) s (by omega)];simp
 simp only[f152,f204,sD,hc0,cond_false,BP,hneg,cond_true,apJ,Option.bind_some,Ek,hw,hm,ME,hw1,g1,e1,e2,b6 (i:=j) (by unfold am;omega),bp]
end Go.Proofs
namespace Go.Proofs
open Go.Shelf Go.RowKit Go.Lib
variable {P:Program}{ρ:Ren}
abbrev qL(s:ByteArray):Prop:=∀(j:Nat) b,s.data.toList[j]? =some b->b.toNat<128
theorem ail{r:Int}(h0:128<=r):2<=(Utf8.encode r).size/\∀j (h:j<(Utf8.encode r).size),0<j->128<=((Utf8.encode r)[j]'h).toNat:=by
 unfold Utf8.encode;generalize hc:(if Utf8.valid r then r.toNat else Utf8.runeError)=c
 have hc1:128<=c:=by
  rw[<-hc];split
  ·omega
  ·decide
 simp only[];have k:∀x:Nat,128<=128+x%64/\128+x%64<256:=fun x=>by omega
 repeat' split
 all_goals first|omega|skip
 ·refine⟨by show 2<=2;decide,fun j h hj=>?_⟩
  have hj2:j<2:=h;have:j=1:=by omega
  subst this;show 128<=(UInt8.ofNat (128+c%64)).toNat;rw[UInt8.toNat_ofNat'];have:=k c;omega
 ·refine⟨by show 2<=3;decide,fun j h hj=>?_⟩
  have hj2:j<3:=h;have:j=1\/j=2:=by omega
  rcases this with rfl|rfl
  ·show 128<=(UInt8.ofNat (128+c/64%64)).toNat;rw[UInt8.toNat_ofNat'];have:=k (c/64);omega
  ·show 128<=(UInt8.ofNat (128+c%64)).toNat;rw[UInt8.toNat_ofNat'];have:=k c;omega
 ·refine⟨by show 2<=4;decide,fun j h hj=>?_⟩
  have hj2:j<4:=h;have:j=1\/j=2\/j=3:=by omega
  rcases this with rfl|rfl|rfl
  ·show 128<=(UInt8.ofNat (128+c/4096%64)).toNat;rw[UInt8.toNat_ofNat'];have:=k (c/4096);omega
  ·show 128<=(UInt8.ofNat (128+c/64%64)).toNat;rw[UInt8.toNat_ofNat'];have:=k (c/64);omega
  ·show 128<=(UInt8.ofNat (128+c%64)).toNat;rw[UInt8.toNat_ofNat'];have:=k c;omega
theorem abp{l:List UInt8}{b:UInt8}(h:∀x,x∈l->x.toNat<128)(hb:128<=b.toNat):Lib.indexByte l b=-1:=by
 induction l with
 |nil=>rfl
 |cons x r ih=>
  have h1:=h x List.mem_cons_self;have h2:=ih fun y hy=>h y (List.mem_cons_of_mem _ hy)
  have h3:(x==b)=false:=by
   rw[beq_eq_false_iff_ne];rintro rfl;omega
  unfold Lib.indexByte;rw[h2,h3];rfl
set_option maxHeartbeats 4000000 in
set_option maxRecDepth 1000000 in
theorem Any.abG(L:Lays.n152 P ρ)(s:ByteArray)(w:World)(ha:qL s):
  Calls P (ρ.f 152) #[.string s,.int .i32 65533] w fun e w'=>e=.returned (.int .i64 (-1))/\∃pos,w'=w.iter s pos:=by
 have HA:Aside (qL s):=ha;clear ha;have t3:=L.t3;have a3:=L.a3;have z3:=L.z3;have v3:=L.v3;have t4:=L.t4;have a4:=L.a4;have z4:=L.z4;have v4:=L.v4;have t5:=L.t5;have a5:=L.a5;have z5:=L.z5;have v5:=L.v5;have t9:=L.t9;have a9:=L.a9;have z9:=L.z9;have v9:=L.v9;have t21:=L.t21;have a21:=L.a21;have z21:=L.z21;have v21:=L.v21;go_enter L.f152,Body.n152_ntmps ρ
 go_wp2
 go_loopg [5,6] s.size (fun g _ _ wx=>∃i:Nat,i+g=s.size/\wx=w.iter s i)
 case atStart=>exact⟨0,by omega,rfl⟩
 case round=>
  obtain⟨i,hig,rfl⟩:=hrel;cases gk with
  |zero=>
   obtain rfl:i=s.size:=by omega
   have hnx:=run_next_end (P:=P) w s s.size
   go_wp2
   go_ret
   exact⟨rfl,_,rfl⟩
  |succ g=>
   have hi:i<s.size:=by omega
   obtain⟨x,hx⟩:∃x:UInt8,s[i]'hi=x:=⟨_,rfl⟩;have hxl:s.data.toList[i]? =some x:=by rw[<-hx];exact Lib.data_getElem? s i hi
   have hx128:x.toNat<128:=HA.out i x hxl;have hnx:=fun ty=>run_next_ascii (P:=P) w s i ty hi (by rw[hx];exact hx128)
   rw[hx] at hnx;clear hxl hx;have hne:((x.toNat:Int)==65533)=false:=by rw[beq_eq_false_iff_ne];omega
   go_wp2
   go_roundg g
   case measure=>omega
   case rel=>exact⟨i+1,by omega,rfl⟩
set_option maxHeartbeats 8000000 in
set_option maxRecDepth 1000000 in
theorem Any.abo(L:Lays.n152 P ρ)(s:ByteArray)(r:Int)(w:World)(h0:128<=r)(h1:r<=2147483647)(hne:r≠65533)(hs:s.size<=1000000)(ha:qL s):
  Calls P (ρ.f 152) #[.string s,.int .i32 r] w fun e w'=>e=.returned (.int .i64 (-1))/\Below w.heap.size w w':=by
 have HA:Aside (qL s):=ha;clear ha;have t3:=L.t3;have a3:=L.a3;have z3:=L.z3;have v3:=L.v3;have t4:=L.t4;have a4:=L.a4;have z4:=L.z4;have v4:=L.v4;have t5:=L.t5;have a5:=L.a5;have z5:=L.z5;have v5:=L.v5;have t9:=L.t9;have a9:=L.a9;have z9:=L.z9;have v9:=L.v9;have t21:=L.t21;have a21:=L.a21;have z21:=L.z21;have v21:=L.v21;have e119:∀args w,(callFunc (ρ.f 119) args).run P w=.ok (.enter (ρ.f 119) args) w:=enters_of L.f119 (by kernel_rfl) rfl
 have e137:∀args w,(callFunc (ρ.f 137) args).run P w=.ok (.enter (ρ.f 137) args) w:=enters_of L.f137 (by kernel_rfl) rfl
 have b1:¬(r<128):=by omega
 have b2:(0:Int)<=r:=by omega
 have b3:(r==65533)=false:=by rw[beq_eq_false_iff_ne];exact hne
 obtain⟨hE,hB⟩:=ail h0;cases hv:Lib.validRune r with
 |false=>
  go_enter L.f152,Body.n152_ntmps ρ
  go_wp2_with (go_at_fn (ρ.f 119);refine(Any.utf8_ValidRune {L with} _ _).mono ?_;rintro e w' ⟨rfl,hw⟩;rw[hw,hv])
  go_ret
  exact⟨rfl,Below.refl _ _⟩
 |true=>
  have mixed:=L.mixed;have s21:(P.underlying (ρ.t 21)).isSome=true:=by rw[L.t21];rfl
  have hcv:=fun w=>run_convert_int_string (P:=P) w (ρ.t 21) (ρ.t 9) .i32 r s21 L.t9
  have hRs:(Utf8.encode r).size<=4:=encode_size_le r;generalize hR:Utf8.encode r=R at hE hB hcv hRs;clear hR;obtain⟨n,hn⟩:∃n:Nat,R.size=n+1:=⟨R.size-1,by omega⟩
  have hidx:(R.size:Int)-1=(n:Int):=by omega
  go_enter L.f152,Body.n152_ntmps ρ
  go_wp2_with (go_at_fn (ρ.f 119);refine(Any.utf8_ValidRune {L with} _ _).mono ?_;rintro e w' ⟨rfl,hw⟩;rw[hw,hv])
  go_step3
  go_wp2
  refine wp_loop_rounds 1 ?_
  rw[rounds_succ]
  go_wp2
  ·have hlt:(n:Int)<(s.size:Int):=by omega
   have hns:n<s.size:=by omega
   have hnR:n<R.size:=by omega
   have hx:=HA.out n _ (Lib.data_getElem? s n hns);have hy:=hB n hnR (by omega)
   obtain⟨x,hxe⟩:∃x:UInt8,s[n]'hns=x:=⟨_,rfl⟩;obtain⟨y,hye⟩:∃y:UInt8,R[n]'hnR=y:=⟨_,rfl⟩;rw[hxe] at hx;rw[hye] at hy;have g1:=fun w=>run_index_string (P:=P) w (ρ.t 9) s .i64 (n:Int) L.t9
   have g2:=fun w=>run_index_string (P:=P) w (ρ.t 9) R .i64 (n:Int) L.t9
   simp only[show(0:Int)<=(n:Int)/\(n:Int)<(s.size:Int) from⟨by omega,hlt⟩,dif_pos,Int.toNat_natCast,hxe] at g1
   simp only[show(0:Int)<=(n:Int)/\(n:Int)<(R.size:Int) from⟨by omega,by omega⟩,dif_pos,Int.toNat_natCast,hye] at g2
   go_step3
   go_wp2
   go_region_o
   have hxy:((x.toNat:Int)==(y.toNat:Int))=false:=by rw[beq_eq_false_iff_ne];omega
   have hxy':¬x.toNat=y.toNat:=by omega
   go_wp2
   have hsm:indexByte (List.take (s.size-(n+1)) (List.drop (n+1) s.data.toList)) y=-1:=by
    refine abp (fun z hz=>?_) hy
    obtain⟨k,hk⟩:=List.getElem?_of_mem (List.mem_of_mem_drop (List.mem_of_mem_take hz));exact HA.out k z hk
   have hb1:(n:Int)+1<=(s.size:Int):=by omega
   have hb0:(0:Int)<=(n:Int)+1:=by omega
   have hb2:¬((s.size:Int)<(n:Int)+1):=by omega
   have hbn:n+1<=s.size:=by omega
   have hsl1:∀w,(Instr.slice (ρ.t 9) (.string s) (some (.int .i64 ((n:Int)+1))) none none).run P w=.ok (.string (s.extract (n+1) s.size)) w:=fun w=>by
    rw[run_slice_string_from_if w (ρ.t 9) s .i64 _ L.t9,if_pos ⟨by omega,by omega⟩]
    rfl
   have hw1:IntKind.i64.wrap ((n:Int)+1)=(n:Int)+1:=by rw[IntKind.wrap_i64];omega
   have hsl2:∀w,(Instr.slice (ρ.t 9) (.string s) (some (.int .i64 (IntKind.i64.wrap ((n:Int)+1)))) none none).run P w=.ok (.string (s.extract (n+1) s.size)) w:=fun w=>by rw[hw1];exact hsl1 w
   go_region_with_o (go_at_fn (ρ.f 137);refine(Any.strings_IndexByte {L with} _ _ _).mono ?_;rintro e w' ⟨rfl,hw⟩;rw[hw])
   go_wp2
   rw[Exit.noGoto_ret];simp only[Exit.inBlock,Exit.then]
   rw[Exit.noGoto_ret];simp only[Exit.inBlock,Exit.then]
   go_ret
   exact⟨rfl,(Below.refl _ _).drew.drew⟩
  ·rw[Exit.noGoto_ret];go_ret
   exact⟨rfl,Below.refl _ _⟩
theorem adl(s:ByteArray)(pos:Nat)(h:pos<s.size)(ha:128<=(s[pos]'h).toNat):∀j,j<(Utf8.decode s pos).2->pos+j<s.size/\∀b,s.data.toList[pos+j]? =some b->128<=b.toNat:=by
 have g:∀k (hk:pos+k<s.size) b,s.data.toList[pos+k]? =some b->s.get! (pos+k)=b:=fun k hk b hb=>by
  have e:=Lib.data_getElem? s (pos+k) hk;rw[hb] at e;have:=get_at s (pos+k) hk;rw[Nat.add_zero] at this;rw[this];exact(Option.some.inj e).symm
 have z:∀b,s.data.toList[pos+0]? =some b->128<=b.toNat:=fun b hb=>by
  have e:=Lib.data_getElem? s pos h;rw[Nat.add_zero,e] at hb;rw[<-Option.some.inj hb];exact ha
 have c:∀k,(decide (pos+k<s.size)&&(s.get! (pos+k)).toNat/64==2)=true->pos+k<s.size/\∀b,s.data.toList[pos+k]? =some b->128<=b.toNat:=fun k hk=>by
  simp only[Bool.and_eq_true,decide_eq_true_eq,beq_iff_eq] at hk;refine⟨hk.1,fun b hb=>?_⟩
  have:=g k hk.1 b hb;rw[this] at hk;omega
 have one:∀j,j<1->pos+j<s.size/\∀b,s.data.toList[pos+j]? =some b->128<=b.toNat:=fun j hj=>by
  obtain rfl:j=0:=by omega
  exact⟨h,z⟩
 have hn:¬(s[pos]'h).toNat<128:=by omega
 simp only[Utf8.decode,get_at s pos h,hn,if_false];split
 ·rename_i h2;simp only[Bool.and_eq_true] at h2;have c1:=c 1 (by simpa using h2.2)
  split
  ·intro j hj;have:j=0\/j=1:=by simp only at hj;omega
   rcases this with rfl|rfl
   ·exact⟨h,z⟩
   ·exact c1
  ·exact one
 ·split
  ·rename_i h2;simp only[Bool.and_eq_true] at h2;have c1:=c 1 (by simpa using h2.1.2)
   have c2:=c 2 (by simpa using h2.2)
   split
   ·intro j hj;have:j=0\/j=1\/j=2:=by simp only at hj;omega
    rcases this with rfl|rfl|rfl
    ·exact⟨h,z⟩
    ·exact c1
    ·exact c2
   ·exact one
  ·split
   ·rename_i h2;simp only[Bool.and_eq_true] at h2;have c1:=c 1 (by simpa using h2.1.1.2)
    have c2:=c 2 (by simpa using h2.1.2)
    have c3:=c 3 (by simpa using h2.2)
    split
    ·intro j hj;have:j=0\/j=1\/j=2\/j=3:=by simp only at hj;omega
     rcases this with rfl|rfl|rfl|rfl
     ·exact⟨h,z⟩
     ·exact c1
     ·exact c2
     ·exact c3
    ·exact one
   ·exact one
theorem Any.acn(L:Lays.n152 P ρ)(s:ByteArray)(r:Int)(w:World)(h0:128<=r)(h1:r<=2147483647)(hs:s.size<=1000000)(ha:qL s):
  Calls P (ρ.f 152) #[.string s,.int .i32 r] w fun e w'=>e=.returned (.int .i64 (-1))/\Below w.heap.size w w':=by
 by_cases hne:r=65533
 ·subst hne;exact(Any.abG L s w ha).mono fun e w' ⟨h,pos,h2⟩=>⟨h,h2▸(Below.refl _ _).alloc (Nat.le_refl _) _⟩
 ·exact Any.abo L s r w h0 h1 hne hs ha
set_option maxHeartbeats 8000000 in
set_option maxRecDepth 1000000 in
theorem Any.abg(L:Lays.n153 P ρ)(s chars:ByteArray)(w:World)(h2:2<=chars.size)(h8:s.size<=8)(hcs:chars.size<=1000000)(hac:qL chars):
  Calls P (ρ.f 153) #[.string s,.string chars] w fun e w'=>e=.returned (.int .i64 (Lib.indexAny s.data.toList chars.data.toList))/\Below w.heap.size w w':=by
 have HA:Aside (qL chars):=hac;clear hac;have hemp:chars.toList.isEmpty=false:=by
  rw[Lib.toList_data];cases h:chars.data.toList with
  |nil=>have:=Lib.size_eq chars;rw[h,List.length_nil] at this;omega
  |cons _ _=>rfl
 have hn1:((chars.size:Int)==1)=false:=beq_eq_false_iff_ne.2 (by omega)
 have h8z:decide ((8:Int)<(s.size:Int))=false:=decide_eq_false (by omega)
 have t3:=L.t3;have a3:=L.a3;have z3:=L.z3;have v3:=L.v3;have t4:=L.t4;have a4:=L.a4;have z4:=L.z4;have v4:=L.v4;have t5:=L.t5;have a5:=L.a5;have z5:=L.z5;have v5:=L.v5;have t9:=L.t9;have a9:=L.a9;have z9:=L.z9;have v9:=L.v9;have t21:=L.t21;have a21:=L.a21;have z21:=L.z21;have v21:=L.v21;have e152:∀args w,(callFunc (ρ.f 152) args).run P w=.ok (.enter (ρ.f 152) args) w:=enters_of L.f152 (by kernel_rfl) rfl
 have e226:∀args w,(callFunc (ρ.f 226) args).run P w=.ok (.enter (ρ.f 226) args) w:=enters_of L.f226 (by kernel_rfl) rfl
 go_enter L.f153,Body.n153_ntmps ρ
 go_wp2_with (go_at_fn (ρ.f 226);refine(Any.strings_shouldUseASCIISet {L with} _ _).mono ?_;rintro e w' ⟨rfl,hw⟩;rw[hw,h8z])
 go_loopg [9,10] s.size (fun g _ _ wx=>∃i:Nat,i<=s.size/\s.size-i<=g/\wx.heap[w.heap.size]? =some (.stringIter s i)/\Aside (Below w.heap.size w wx)/\Aside (Lib.NoAny s.data.toList chars.data.toList i))
 case atStart=>exact⟨0,by omega,by omega,World.iter_heap _ _ _,(Below.refl _ _).alloc (Nat.le_refl _) _,Lib.NoAny.zero _ _⟩
 case round=>
  obtain⟨i,hi,hg,hk,q_,HN⟩:=hrel;by_cases hlt:i<s.size
  ·obtain⟨x,hx⟩:∃x:UInt8,s[i]'hlt=x:=⟨_,rfl⟩;have hxl:s.data.toList[i]? =some x:=by rw[<-hx];exact Lib.data_getElem? s i hlt
   have Hx:Aside (s.data.toList[i]? =some x):=hxl;have hkl:=(Array.getElem?_eq_some_iff.1 hk).1;by_cases hx128:x.toNat<128
   ·have hnx:=fun ty=>run_next_ascii_at (P:=P) _ w.heap.size s i ty hk hlt (by rw[hx];exact hx128)
    rw[hx] at hnx;have hio:=iterAt_heap _ w.heap.size s i (i+1) hk;have hbo:Aside (Below w.heap.size w _):=below_iterAt q_.out (Nat.le_refl _) s (i+1);clear hxl hx;have hcon:=Lib.contains_iff_indexByte chars.data.toList x;have hback:((x.toNat:Int)).toNat.toUInt8=x:=by simp
    cases hin:chars.data.toList.contains x
    ·rw[hin] at hcon;have hlt2:¬((0:Int)<=Lib.indexByte chars.data.toList x):=of_decide_eq_false hcon.symm;clear hcon
     go_wp2_with (go_at_fn (ρ.f 152);refine(Any.strings_IndexRune_ascii {L with} _ _ _ (by omega) (by omega)).mono ?_;rintro e w' ⟨rfl,hw⟩;rw[hw,hback])
     go_roundg (s.size-(i+1))
     case measure=>omega
     case rel=>exact⟨i+1,by omega,by omega,hio,hbo,HN.out.succ Hx.out hin⟩
    ·rw[hin] at hcon;have hge:(0:Int)<=Lib.indexByte chars.data.toList x:=of_decide_eq_true hcon.symm;clear hcon
     go_wp2_with (go_at_fn (ρ.f 152);refine(Any.strings_IndexRune_ascii {L with} _ _ _ (by omega) (by omega)).mono ?_;rintro e w' ⟨rfl,hw⟩;rw[hw,hback])
     go_ret
     exact⟨by rw[Lib.indexAny_hit HN.out Hx.out hin];rfl,hbo.out⟩
   ·have hhi:128<=(s[i]'hlt).toNat:=by rw[hx];omega
    have hnx:=fun ty=>run_next_any_at (P:=P) _ w.heap.size s i ty hk hlt
    have hd1:=decode_high s i hlt hhi;have hd2:=decode_le s i;have hsk:Aside (∀j,j<(Utf8.decode s i).2->i+j<s.size/\∀b,s.data.toList[i+j]? =some b->128<=b.toNat):=adl s i hlt hhi;generalize(Utf8.decode s i).1=c at hnx hd1 hd2;generalize(Utf8.decode s i).2=d at hnx hd1 hsk;have hle:i+d<=s.size:=by
     have:=(hsk.out (d-1) (by omega)).1
     omega
    have hio:=iterAt_heap _ w.heap.size s i (i+d) hk;have hbo:Aside (Below w.heap.size w _):=below_iterAt q_.out (Nat.le_refl _) s (i+d);have hno:Aside (Lib.NoAny s.data.toList chars.data.toList (i+d)):=fun j b hj hb=>by
     by_cases hji:j<i
     ·exact HN.out j b hji hb
     ·have h3:=(hsk.out (j-i) (by omega)).2 b (by rw[show i+(j-i)=j by omega];exact hb)
      cases hc:chars.data.toList.contains b with
      |false=>rfl
      |true=>
       have hm:b∈chars.data.toList:=by simpa using hc
       obtain⟨k,hk2⟩:=List.getElem?_of_mem hm;have:=HA.out k b hk2;omega
    have hneg:¬((0:Int)<=-1):=by decide
    have hc0:(128:Int)<=(c:Int):=by omega
    have hc1:((c:Nat):Int)<=2147483647:=by omega
    clear hxl hx
    go_wp2_with (go_at_fn (ρ.f 152);refine(Any.acn {L with} _ _ _ hc0 hc1 hcs HA.out).mono ?_;rintro e w' ⟨rfl,hbw⟩)
    go_roundg (s.size-(i+d))
    case measure=>omega
    case rel=>exact⟨i+d,hle,by omega,(hbw.block _ (by simpa[iterAt_size] using hkl)).trans hio,hbo.out.trans (hbw.mono (by rw[iterAt_size];omega)),hno.out⟩
  ·obtain rfl:i=s.size:=by omega
   have hnx:=fun ty=>run_next_end_at (P:=P) _ w.heap.size s s.size ty hk (by omega)
   go_wp2
   go_ret
   exact⟨by rw[Lib.indexAny_none (by rw[<-Lib.size_eq];exact HN.out)];rfl,q_.out⟩
theorem Any.acp(L:Lays.n153 P ρ)(h116:(P.info? (ρ.t 116)).map (fun i=>(i.zero,i.size))=some (some (.agg (Array.replicate 256 (.bool false))),256))(s chars:ByteArray)(w:World)(hs:s.size<4294967281)(h2:2<=chars.size)(hcs:chars.size<=1000000)(hac:qL chars):
  Calls P (ρ.f 153) #[.string s,.string chars] w fun e w'=>e=.returned (.int .i64 (Lib.indexAny s.data.toList chars.data.toList))/\Below w.heap.size w w':=by
 by_cases h8:s.size<=8
 ·exact Any.abg L s chars w h2 h8 hcs hac
 ·refine(Any.strings_IndexAny_long L (zero_of_info h116).1 (zero_of_info h116).2 s chars w h2 (by omega) hs (by omega) hac).mono fun e w' ⟨h1,h2⟩=>⟨h1,?_⟩
  rw[h2];exact((Below.refl _ _).alloc (Nat.le_refl _) _).alloc (by simp) _
end Go.Proofs
namespace Go.Proofs
open Go.Jk
noncomputable def Vg:aK:=FE
theorem aml:aL Z 243 Vg:=agk (fun _ _=>enters_of Tryz.func243 (by kernel_rfl) rfl _ _) fun s p w h1 h2 h3 aE=>Any.acp Tryz.ajX (by kernel_rfl) s p w h1 h2 h3 aE
noncomputable abbrev aqD:bl:=[(121,x6),(243,Vg),(244,X0)]
theorem Y3:bc Z (bi ak aqD):=bj ⟨Dv,aml,anV,⟨⟩⟩
abbrev Sr:Shape:=⟨[aq 0,a8 2 2 0,a8 4 4 0],[a7 2 [ax,bz,ax],a7 4 [ax,bz,ax]],49⟩
abbrev Sc:List aR:=[(.norm,⟨[a8 2 2 0,a8 4 4 0],[a7 2 [ax,bz,ax],a7 4 [ax,bz,ax]],49⟩),(.ret,⟨[a8 2 2 0,aC 3],[a7 2 [ax,bz,ax]],49⟩)]
noncomputable def nV(y:Sr.J):Option (aF Sc):=
(r6 y.1.1 ([61,60,62]:F)).bind fun a=>
 bif(decide ((Lib.indexAny y.1.1 ([61,60,62]:F))>=(0:Int))) then
(bD y.1.1 (0:Int) (Lib.indexAny y.1.1 ([61,60,62]:F))).bind fun b=>
(bD y.1.1 (Lib.indexAny y.1.1 ([61,60,62]:F)) (y.1.1.length:Int)).bind fun c=>
(f244 ((c,([62,61]:F),()),())).bind fun d=>
 bif d.1.1 then
(bD c (2:Int) (c.length:Int)).bind fun e=>
 some (.inl (((),(),()),(y.2.1.1,y.2.1.2.1,y.2.1.2.2.1,()),(b,(2:Int),e,()),()))
else
(aQ c (0:Int)).bind fun f=>
 bif((f.toNat:Int)==(61:Int)) then
(bD c (1:Int) (c.length:Int)).bind fun g=>
 some (.inl (((),(),()),(y.2.1.1,y.2.1.2.1,y.2.1.2.2.1,()),(b,(1:Int),g,()),()))
else
(aQ c (0:Int)).bind fun h=>
 bif((h.toNat:Int)==(60:Int)) then
(bD c (1:Int) (c.length:Int)).bind fun i=>
 some (.inl (((),(),()),(y.2.1.1,y.2.1.2.1,y.2.1.2.2.1,()),(b,(3:Int),i,()),()))
else
 some (.inr (((),false,()),(([]:F),(0:Int),([]:F),()),()))
else
 some (.inl (((),(),()),(y.2.1.1,y.2.1.2.1,y.2.1.2.2.1,()),(y.2.2.1.1,y.2.2.1.2.1,y.2.2.1.2.2.1,()),()))
theorem ajh:aX Z (ap (codeOf Tryz.f206) 1 14) (bb Sr Sc nV):=c8 Y3 (by kernel_rfl) aj fun y=>by kernel_rfl
abbrev i206:Shape:=⟨[aq 0],[],49⟩
abbrev Wn:Shape:=⟨[a8 2 2 0,aC 3],[a7 2 [ax,bz,ax]],49⟩
noncomputable def f206(a:i206.J):Option Wn.J:=
(nV ((a.1.1,(),(),()),(([]:F),(0:Int),([]:F),()),(a.1.1,(0:Int),([]:F),()),())).bind fun b=>
(match b with
|.inl c=>
(f121 (((c.2.2.1.1,c.2.2.1.2.1,c.2.2.1.2.2.1,()),()),())).bind fun d=>
 bif(!d.1.1) then
 some (((),false,()),(([]:F),(0:Int),([]:F),()),())
else
 some (((),true,()),(c.2.2.1.1,c.2.2.1.2.1,c.2.2.1.2.2.1,()),())
|.inr e=>
 some (((),e.1.2.1,()),(e.2.1.1,e.2.1.2.1,e.2.1.2.2.1,()),()))
noncomputable def Yh:aK:=a6 ak Tryz.f206 i206 Wn [] f206
theorem z206:aL Z 206 Yh:=ba Y3 Tryz.func206 (by kernel_rfl) (bd ajh aj) (fun y=>by kernel_rfl) fun a=>by kernel_rfl
def fe:F:=[61,60,62]
theorem QS:∀s:F,((∀y,y∈s->fe.contains y=false)/\Lib.indexAny s fe=-1)\/∃a x r,s=a++x::r/\fe.contains x=true/\(∀y,y∈a->fe.contains y=false)/\Lib.indexAny s fe=(a.length:Int):=by
 intro s;induction s with
 |nil=>exact .inl ⟨fun y h=>(by cases h),rfl⟩
 |cons b l ih=>
  unfold Lib.indexAny;cases hb:fe.contains b with
  |true=>exact .inr ⟨[],b,l,rfl,hb,fun y h=>(by cases h),rfl⟩
  |false=>
   rcases ih with⟨h1,h2⟩|⟨a,x,r,h1,h2,h3,aE⟩
   ·refine .inl ⟨fun y hy=>?_,?_⟩
    ·rcases List.mem_cons.1 hy with rfl|hy
     ·exact hb
     ·exact h1 y hy
    ·rw[h2];simp
   ·refine .inr ⟨b::a,x,r,by rw[h1];rfl,h2,fun y hy=>?_,?_⟩
    ·rcases List.mem_cons.1 hy with rfl|hy
     ·exact hb
     ·exact h3 y hy
    ·rw[aE];have:((a.length:Int)==-1)=false:=by rw[beq_eq_false_iff_ne];omega
     simp[this]
theorem aks{a r:F}{x:UInt8}(ha:∀y,y∈a->fe.contains y=false)(hx:fe.contains x=true):Lib.indexAny (a++x::r) fe=(a.length:Int):=by
 induction a with
 |nil=>show Lib.indexAny (x::r) fe=_;unfold Lib.indexAny;rw[hx];rfl
 |cons b a ih=>
  show Lib.indexAny (b::(a++x::r)) fe=_;unfold Lib.indexAny;have hb:=ha b List.mem_cons_self;rw[hb,ih fun y hy=>ha y (List.mem_cons_of_mem _ hy)]
  have:((a.length:Int)==-1)=false:=by rw[beq_eq_false_iff_ne];omega
  simp[this]
theorem alZ{s:F}(h:∀y,y∈s->fe.contains y=false):Lib.indexAny s fe=-1:=by
 rcases QS s with⟨_,h2⟩|⟨a,x,r,h1,h2,_,_⟩
 ·exact h2
 ·have:=h x (by rw[h1];simp)
  rw[h2] at this;cases this
theorem aiA{s:F}(h:s.length<=1000000):r6 s ([61,60,62]:F)=some ():=by
 unfold r6;exact if_pos ⟨by omega,by decide,by decide,by decide⟩
def qu(a t:F):Option bG:=match t with
 |62::61::r=>some ⟨a,2,r⟩
 |61::r=>some ⟨a,1,r⟩
 |60::r=>some ⟨a,3,r⟩
 |_=>none
def ll(s:F):Option bG:=match Lib.indexAny s fe with
 |.ofNat k=>qu (s.take k) (s.drop k)
 |_=>some ⟨s,0,[]⟩
def eY(s:F):Option bG:=match ll s with
 |some n=>bif dB n then some n else none
 |none=>none
def iU:bG:=⟨[],0,[]⟩
theorem PN(s:F)(hs:s.length<=1000000):f206 ((s,()),())=some (((),((eY s).isSome,())),((((eY s).getD iU).name,(((eY s).getD iU).kind,(((eY s).getD iU).aW,()))),())):=by
 have hk:∀n:bG,n.name.length<=1000000->n.aW.length<=1000000->f121 (((n.name,(n.kind,(n.aW,()))),()),())=some ((dB n,()),()):=fun n h1 h2=>
  zO (((n.name,(n.kind,(n.aW,()))),()),()) (by show n.name.length<=2097152;omega) (by show n.aW.length<=2097152;omega)
 have fin:∀n:bG,n.name.length<=1000000->n.aW.length<=1000000->ll s=some n->
   nV ((s,((),((),()))),((([]:F),((0:Int),(([]:F),()))),((s,((0:Int),(([]:F),()))),())))=some (.inl (((),((),())),((([]:F),((0:Int),(([]:F),()))),((n.name,(n.kind,(n.aW,()))),()))))->
   f206 ((s,()),())=some (((),((eY s).isSome,())),((((eY s).getD iU).name,(((eY s).getD iU).kind,(((eY s).getD iU).aW,()))),())):=by
  intro n h1 h2 hr hg;have vo:=hk n h1 h2;have hG:eY s=bif dB n then some n else none:=by unfold eY;rw[hr]
  simp only[f206,hg,Option.bind_some,vo,hG];cases dB n<;>rfl
 have dJ:r6 s ([61,60,62]:F)=some ():=aiA hs;rcases QS s with⟨_,h2⟩|⟨a,x,r,h1,h2,h3,aE⟩
 ·refine fin ⟨s,0,[]⟩ hs (by simp) (by unfold ll;rw[h2];rfl) ?_
  have h2:Lib.indexAny s ([61,60,62]:F)=-1:=h2;have Y:decide ((-1:Int)>=0)=false:=rfl;simp only[nV,dJ,Option.bind_some,h2,Y,cond_false]
 ·have pK:Lib.indexAny s ([61,60,62]:F)=(a.length:Int):=aE;have Y:decide ((a.length:Int)>=0)=true:=decide_eq_true (by omega)
  have hl:s.length=a.length+(x::r).length:=by rw[h1];simp
  have e1:bD s 0 ((a.length:Nat):Int)=some a:=by rw[iJ (by omega),h1];simp
  have e2:bD s ((a.length:Nat):Int) ((s.length:Nat):Int)=some (x::r):=by rw[hI (by omega),h1];simp
  have hp:=abY (x::r) [62,61];have pu:aQ (x::r) (0:Int)=some x:=rfl;have dt:ll s=qu a (x::r):=by
   unfold ll;rw[aE];have d1:s.drop a.length=x::r:=by rw[h1];simp
   have d2:s.take a.length=a:=by rw[h1];simp
   show qu (s.take a.length) (s.drop a.length)=_;rw[d1,d2]
  have no:ll s=none->nV ((s,((),((),()))),((([]:F),((0:Int),(([]:F),()))),((s,((0:Int),(([]:F),()))),())))=some (.inr (((),(false,())),((([]:F),((0:Int),(([]:F),()))),())))->
    f206 ((s,()),())=some (((),((eY s).isSome,())),((((eY s).getD iU).name,(((eY s).getD iU).kind,(((eY s).getD iU).aW,()))),())):=by
   intro hr hg;simp only[f206,hg,Option.bind_some];unfold eY;rw[hr];rfl
  have hx:x=61\/x=60\/x=62:=by simpa[fe] using h2
  have pJ:a.length<=1000000:=by omega
  have oy:r.length<=1000000:=by simp at hl;omega
  rcases hx with rfl|rfl|rfl
  ·have hn:dZ [62,61] (61::r)=none:=by unfold dZ;cases r<;>simp
   rw[hn] at hp;refine fin ⟨a,1,r⟩ pJ oy dt ?_
   have bp:bD (61::r) 1 (((61::r).length:Nat):Int)=some r:=hI (xs:=61::r) (a:=1) (by simp)
   have t1:((((61:UInt8).toNat:Nat):Int)==61)=true:=rfl;simp only[nV,dJ,Option.bind_some,pK,Y,cond_true,e1,e2,hp,Option.isSome_none,cond_false,pu,t1,bp]
  ·have hn:dZ [62,61] (60::r)=none:=by unfold dZ;cases r<;>simp
   rw[hn] at hp;refine fin ⟨a,3,r⟩ pJ oy dt ?_
   have bp:bD (60::r) 1 (((60::r).length:Nat):Int)=some r:=hI (xs:=60::r) (a:=1) (by simp)
   have t1:((((60:UInt8).toNat:Nat):Int)==61)=false:=rfl;have t2:((((60:UInt8).toNat:Nat):Int)==60)=true:=rfl;simp only[nV,dJ,Option.bind_some,pK,Y,cond_true,e1,e2,hp,Option.isSome_none,cond_false,pu,t1,t2,bp]
  ·have t1:((((62:UInt8).toNat:Nat):Int)==61)=false:=rfl;have t2:((((62:UInt8).toNat:Nat):Int)==60)=false:=rfl;cases r with
   |nil=>
    have hn:dZ [62,61] ([62]:F)=none:=by decide
    rw[hn] at hp;refine no dt ?_
    simp only[nV,dJ,Option.bind_some,pK,Y,cond_true,e1,e2,hp,Option.isSome_none,cond_false,pu,t1,t2]
   |cons b r=>
    by_cases hb:b=61
    ·subst hb;have hn:dZ [62,61] (62::61::r)=some r:=wg [62,61] r;rw[hn] at hp;refine fin ⟨a,2,r⟩ pJ (by simp at oy;show r.length<=1000000;omega) dt ?_
     have bp:bD (62::61::r) 2 (((62::61::r).length:Nat):Int)=some r:=hI (xs:=62::61::r) (a:=2) (by simp)
     simp only[nV,dJ,Option.bind_some,pK,Y,cond_true,e1,e2,hp,Option.isSome_some,bp]
    ·have hn:dZ [62,61] (62::b::r)=none:=by
      have hb2:(b==61)=false:=by simpa using hb
      unfold dZ;simp[hb2]
     rw[hn] at hp;refine no (dt.trans ?_) ?_
     ·unfold qu;split
      ·rename_i h;simp at h;exact absurd h.1 hb
      ·rename_i h;simp at h
      ·rename_i h;simp at h
      ·rfl
     ·simp only[nV,dJ,Option.bind_some,pK,Y,cond_true,e1,e2,hp,Option.isSome_none,cond_false,pu,t1,t2]
theorem Rl{s:F}(h:∀x,x∈s->(97<=x.toNat/\x.toNat<=122)\/(48<=x.toNat/\x.toNat<=57)):∀y,y∈s->fe.contains y=false:=by
 intro y hy;have:=h y hy;cases hc:fe.contains y with
 |false=>rfl
 |true=>
  have hx:y=61\/y=60\/y=62:=by simpa[fe] using hc
  rcases hx with rfl|rfl|rfl<;>simp at this
theorem afq{n:bG}(h:dB n=true):ll (cS n)=some n:=by
 obtain⟨h1,h2⟩:=zu h;have hno:=Rl (Fh h1);obtain⟨bN,k,v⟩:=n;have key:∀(x:UInt8) (t:F),fe.contains x=true->ll (bN++x::t)=qu bN (x::t):=by
  intro x t hx;unfold ll;rw[aks hno hx];have d1:(bN++x::t).drop bN.length=x::t:=by simp
  have d2:(bN++x::t).take bN.length=bN:=by simp
  show qu ((bN++x::t).take bN.length) ((bN++x::t).drop bN.length)=_;rw[d1,d2]
 rcases h2 with⟨hk,hv⟩|⟨hk,hv⟩
 ·have hk:k=0:=hk;have hv:v=[]:=hv;subst hk hv;have e:cS ⟨bN,0,[]⟩=bN:=by unfold cS dN;simp
  rw[e];unfold ll;rw[alZ hno];rfl
 ·rcases hk with hk|hk|hk
  ·have hk:k=1:=hk;subst hk;have e:cS ⟨bN,1,v⟩=bN++61::v:=by unfold cS dN;simp
   rw[e,key 61 v (by decide)];rfl
  ·have hk:k=2:=hk;subst hk;have e:cS ⟨bN,2,v⟩=bN++62::61::v:=by unfold cS dN;simp
   rw[e,key 62 (61::v) (by decide)];rfl
  ·have hk:k=3:=hk;subst hk;have e:cS ⟨bN,3,v⟩=bN++60::v:=by unfold cS dN;simp
   rw[e,key 60 v (by decide)];rfl
theorem aic{n:bG}(h:dB n=true):eY (cS n)=some n:=by
 unfold eY;rw[afq h];simp[h]
noncomputable abbrev aqC:bl:=[(150,x5),(151,DR),(245,XZ)]
theorem DV:bc Z (bi ak aqC):=bj ⟨Du,KB,anU,⟨⟩⟩
abbrev Sq:Shape:=⟨[a8 2 2 0,aq 3,aC 4,aq 6,aC 7,aM 8 .str],[a7 2 [ax,bz,bz,ax]],110⟩
abbrev Sb:List aR:=[(.norm,⟨[a8 2 2 0,aq 3,aC 4,aq 6,aM 8 .str,aC 26],[a7 2 [ax,bz,bz,ax]],110⟩)]
noncomputable def wV(y:Sq.J):Option (aF Sb):=
 bif(!(!y.1.2.2.2.2.1)) then
 some (((),y.1.2.1,y.1.2.2.1,y.1.2.2.2.1,y.1.2.2.2.2.2.1,(decide ((y.1.2.2.2.2.2.1.length:Int)<(3:Int))),()),(y.2.1.1,y.2.1.2.1,y.2.1.2.2.1,y.2.1.2.2.2.1,()),())
else
 some (((),y.1.2.1,y.1.2.2.1,y.1.2.2.2.1,y.1.2.2.2.2.2.1,true,()),(y.2.1.1,y.2.1.2.1,y.2.1.2.2.1,y.2.1.2.2.2.1,()),())
theorem ajg:aX Z (ap (codeOf Tryz.f207) 1 60) (bb Sq Sb wV):=c8 DV (by kernel_rfl) aj fun y=>by kernel_rfl
abbrev P9:Shape:=⟨[a8 2 2 0,aq 3,aC 4,aq 6,aM 8 .str,ad 9],[a7 2 [ax,bz,bz,ax]],110⟩
abbrev PQ:List aR:=[(.norm,⟨[a8 2 2 0,aq 3,aC 4,aq 6,aM 8 .str,ad 9,aC 74],[a7 2 [ax,bz,bz,ax]],110⟩)]
noncomputable def Gt(y:P9.J):Option (aF PQ):=
(aQ y.1.2.2.2.2.1 (0:Int)).bind fun a=>
 bif(!(!(a==([102,105,108,101]:F)))) then
 some (((),y.1.2.1,y.1.2.2.1,y.1.2.2.2.1,y.1.2.2.2.2.1,y.1.2.2.2.2.2.1,((y.1.2.2.2.2.1.length:Int) !=(4:Int)),()),(y.2.1.1,y.2.1.2.1,y.2.1.2.2.1,y.2.1.2.2.2.1,()),())
else
 some (((),y.1.2.1,y.1.2.2.1,y.1.2.2.2.1,y.1.2.2.2.2.1,y.1.2.2.2.2.2.1,true,()),(y.2.1.1,y.2.1.2.1,y.2.1.2.2.1,y.2.1.2.2.2.1,()),())
theorem afC:aX Z (ap (codeOf Tryz.f207) 1 2044) (bb P9 PQ Gt):=c8 DV (by kernel_rfl) aj fun y=>by kernel_rfl
abbrev P8:Shape:=⟨[a8 2 2 0,aq 3,aC 4,aq 6,aM 8 .str,ad 9,aC 10,ad 11],[a7 2 [ax,bz,bz,ax]],110⟩
abbrev PP:List aR:=[(.norm,⟨[a8 2 2 0,aq 3,aC 4,aq 6,aM 8 .str,ad 9,ad 11,aC 96],[a7 2 [ax,bz,bz,ax]],110⟩)]
noncomputable def Gs(y:P8.J):Option (aF PP):=
 bif(!(!y.1.2.2.2.2.2.2.1)) then
 bif(!(decide ((y.1.2.2.2.1.length:Int)<=y.1.2.2.2.2.2.2.2.1))) then
(aQ y.1.2.2.2.1 y.1.2.2.2.2.2.2.2.1).bind fun a=>
 some (((),y.1.2.1,y.1.2.2.1,y.1.2.2.2.1,y.1.2.2.2.2.1,y.1.2.2.2.2.2.1,y.1.2.2.2.2.2.2.2.1,((a.toNat:Int) !=(10:Int)),()),(y.2.1.1,y.2.1.2.1,y.2.1.2.2.1,y.2.1.2.2.2.1,()),())
else
 some (((),y.1.2.1,y.1.2.2.1,y.1.2.2.2.1,y.1.2.2.2.2.1,y.1.2.2.2.2.2.1,y.1.2.2.2.2.2.2.2.1,true,()),(y.2.1.1,y.2.1.2.1,y.2.1.2.2.1,y.2.1.2.2.2.1,()),())
else
 some (((),y.1.2.1,y.1.2.2.1,y.1.2.2.2.1,y.1.2.2.2.2.1,y.1.2.2.2.2.2.1,y.1.2.2.2.2.2.2.2.1,true,()),(y.2.1.1,y.2.1.2.1,y.2.1.2.2.1,y.2.1.2.2.2.1,()),())
theorem afB:aX Z (ap (codeOf Tryz.f207) 1 8188) (bb P8 PP Gs):=c8 DV (by kernel_rfl) aj fun y=>by kernel_rfl
abbrev i207:Shape:=⟨[aq 0],[],110⟩
abbrev KO:Shape:=⟨[a8 2 2 0,aq 3,aC 4],[a7 2 [ax,bz,bz,ax]],110⟩
noncomputable def f207(a:i207.J):Option KO.J:=
(f150 ((a.1.1,([10]:F),()),())).bind fun b=>
(f245 ((b.1.1,([32]:F),(5:Int),()),())).bind fun c=>
(wV (((),([]:F),false,b.1.2.1,b.1.2.2.1,c.1.1,()),(([]:F),(0:Int),(0:Int),([]:F),()),())).bind fun d=>
 bif d.1.2.2.2.2.2.1 then
 some (((),([]:F),false,()),(([]:F),(0:Int),(0:Int),([]:F),()),())
else
(aQ d.1.2.2.2.2.1 (0:Int)).bind fun e=>
 bif(e==([108,105,110,107]:F)) then
(aQ d.1.2.2.2.2.1 (1:Int)).bind fun f=>
(aQ d.1.2.2.2.2.1 (2:Int)).bind fun g=>
 some (((),d.1.2.2.2.1,((d.1.2.2.2.2.1.length:Int)==(3:Int)),()),(f,(3:Int),(0:Int),g,()),())
else
(aQ d.1.2.2.2.2.1 (1:Int)).bind fun h=>
(f151 ((h,(7:Int),()),())).bind fun i=>
 bif(!i.1.2.1) then
 some (((),([]:F),false,()),(([]:F),(0:Int),(0:Int),([]:F),()),())
else
(aQ d.1.2.2.2.2.1 (0:Int)).bind fun j=>
 bif(j==([100,105,114]:F)) then
(aQ d.1.2.2.2.2.1 (2:Int)).bind fun k=>
 some (((),d.1.2.2.2.1,((d.1.2.2.2.2.1.length:Int)==(3:Int)),()),(k,(1:Int),i.1.1,([]:F),()),())
else
(Gt (((),d.1.2.1,d.1.2.2.1,d.1.2.2.2.1,d.1.2.2.2.2.1,i.1.1,()),(d.2.1.1,d.2.1.2.1,d.2.1.2.2.1,d.2.1.2.2.2.1,()),())).bind fun l=>
 bif l.1.2.2.2.2.2.2.1 then
 some (((),([]:F),false,()),(([]:F),(0:Int),(0:Int),([]:F),()),())
else
(aQ l.1.2.2.2.2.1 (3:Int)).bind fun m=>
(f151 ((m,(80:Int),()),())).bind fun n=>
(Gs (((),l.1.2.1,l.1.2.2.1,l.1.2.2.2.1,l.1.2.2.2.2.1,l.1.2.2.2.2.2.1,n.1.2.1,n.1.1,()),(l.2.1.1,l.2.1.2.1,l.2.1.2.2.1,l.2.1.2.2.2.1,()),())).bind fun D=>
 bif D.1.2.2.2.2.2.2.2.1 then
 some (((),([]:F),false,()),(([]:F),(0:Int),(0:Int),([]:F),()),())
else
(aQ D.1.2.2.2.2.1 (2:Int)).bind fun p=>
(bD D.1.2.2.2.1 (0:Int) D.1.2.2.2.2.2.2.1).bind fun q=>
(bD D.1.2.2.2.1 (IntKind.i64.wrap (D.1.2.2.2.2.2.2.1+(1:Int))) (D.1.2.2.2.1.length:Int)).bind fun r=>
 some (((),r,true,()),(p,(2:Int),D.1.2.2.2.2.2.1,q,()),())
noncomputable def Yg:aK:=a6 ak Tryz.f207 i207 KO [] f207
theorem an6:aL Z 207 Yg:=ba DV Tryz.func207 (by kernel_rfl) (bd ajg (bd afC (bd afB aj))) (fun y=>by kernel_rfl) fun a=>by kernel_rfl
def C3(aP w2 cr r:F):Option (aG×F):=bif fO 80 cr then(match r.drop (df cr).toNat with|10::eE=>some (⟨w2,2,df aP,r.take (df cr).toNat⟩,eE)|_=>none) else none
def kg(ws:List F)(r:F):Option (aG×F):=match ws with
 |O::aP::w2::more=>
  bif O==iy then(bif more==[] then some (⟨aP,3,0,w2⟩,r) else none)
  else bif fO 7 aP then
   (bif O==iA then(bif more==[] then some (⟨w2,1,df aP,[]⟩,r) else none)
   else bif O==iO then(match more with|[cr]=>C3 aP w2 cr r|_=>none) else none)
  else none
 |_=>none
def n_(s:F):Option (aG×F):=match dv 10 s with
 |some (bV,r)=>kg (splitN 32 4 bV) r
 |none=>none
theorem adt{m:Int}{s:F}(h:fO m s=true):0<=df s/\df s<=m:=by
 unfold fO at h;simp only[Bool.and_eq_true,decide_eq_true_eq] at h;refine⟨?_,h.2⟩;have key:∀(s:F) (n:Int),s.all cU=true->0<=n->0<=s.foldl ei n:=by
  intro s;induction s with
  |nil=>intro n _ h;exact h
  |cons b s ih=>
   intro n Y hn;simp only[List.all_cons,Bool.and_eq_true] at Y;have hb:=jr Y.1;refine ih _ Y.2 ?_
   unfold ei;omega
 exact key s 0 h.1.1.1.1 (by decide)
theorem rc(c:UInt8):∀(k:Nat) (s p:F),p∈splitN c k s->p.length<=s.length:=by
 intro k;induction k with
 |zero=>intro s p h;simp[splitN] at h;subst h;exact Nat.le_refl _
 |succ k ih=>
  intro s p h;unfold splitN at h;cases hc:dv c s with
  |none=>rw[hc] at h;simp at h;subst h;exact Nat.le_refl _
  |some q=>
   obtain⟨x,y⟩:=q;rw[hc] at h;have hl:=(jO hc).1;have hl:s.length=x.length+1+y.length:=by rw[hl];simp;omega
   rcases List.mem_cons.1 h with rfl|h
   ·omega
   ·have:=ih y p h;omega
theorem ao4{aB:Type}(a b c:aB)(l:List aB):decide (((a::b::c::l).length:Int)<3)=false:=decide_eq_false (by simp;omega)
theorem auv{aB:Type}[BEq aB](a b c:aB)(l:List aB):(((a::b::c::l).length:Int)==3)=(l==[]):=by
 cases l with
 |nil=>rfl
 |cons x l=>
  have h:((x::l)==([]:List aB))=false:=rfl;rw[h,beq_eq_false_iff_ne];simp;omega
theorem Ox(s:F)(hs:s.length<=1000000):∃(r:F) (e:aG),f207 ((s,()),())=some (((),(r,((n_ s).isSome,()))),((e.path,(e.kind,(e.mode,(e.text,())))),()))/\∀q,n_ s=some q->q=(e,r):=by
 have hc:=n8 10 s (by unfold am;omega)
 have hc:f150 ((s,(([10]:F),())),())=_:=hc;have zero:∀{D:Option (aG×F)} {x:Option KO.J},D=none->x=some (((),(([]:F),(false,()))),((([]:F),((0:Int),((0:Int),(([]:F),())))),()))->
   ∃(r:F) (e:aG),x=some (((),(r,(D.isSome,()))),((e.path,(e.kind,(e.mode,(e.text,())))),()))/\∀q,D=some q->q=(e,r):=by
  intro D x ay hx;subst ay;exact⟨[],⟨[],0,0,[]⟩,hx,fun q al=>by cases al⟩
 cases al:dv 10 s with
 |none=>
  have hw:=PL (ia 10 s) (by unfold ia;rw[al];show s.length<=1000000000;omega)
  rw[al] at hc;refine zero (by unfold n_;rw[al]) ?_
  simp only[f207,hc,Option.bind_some,hw,wV,Option.isSome_none,Bool.not_false,Bool.not_true,cond_false,cond_true]
 |some q=>
  obtain⟨bV,rest⟩:=q;have hl:=(jO al).1;have hl:s.length=bV.length+1+rest.length:=by rw[hl];simp;omega
  have ha:ia 10 s=bV:=by unfold ia;rw[al]
  have hb:h' 10 s=rest:=by unfold h';rw[al]
  have hw:=PL bV (by omega)
  rw[al,ha,hb] at hc;have hr:n_ s=kg (splitN 32 4 bV) rest:=by unfold n_;rw[al]
  have hm:=rc 32 4 bV;rw[hr];generalize splitN 32 4 bV=ws at hw hm;have short:decide ((ws.length:Int)<3)=true->kg ws rest=none->∃(r:F) (e:aG),f207 ((s,()),())=some (((),(r,((kg ws rest).isSome,()))),((e.path,(e.kind,(e.mode,(e.text,())))),()))/\∀q,kg ws rest=some q->q=(e,r):=by
   intro h1 h2;refine zero h2 ?_
   simp only[f207,hc,Option.bind_some,hw,wV,Option.isSome_some,Bool.not_false,Bool.not_true,cond_false,cond_true,h1]
  match ws,short,hw,hm with
  |[],short,hw,hm=>exact short rfl rfl
  |[_],short,hw,hm=>exact short rfl rfl
  |[_,_],short,hw,hm=>exact short rfl rfl
  |O::aP::w2::more,_,hw,hm=>
   have fG:aQ (O::aP::w2::more) (0:Int)=some O:=rfl;have eD:aQ (O::aP::w2::more) (1:Int)=some aP:=rfl;have fy:aQ (O::aP::w2::more) (2:Int)=some w2:=rfl;have h3:=ao4 O aP w2 more;have dq:=auv O aP w2 more;have m1:=hm aP (by simp)
   have n1:=zM aP 7 (by unfold am;omega)
   simp only[f207,hc,Option.bind_some,hw,wV,Option.isSome_some,Bool.not_false,Bool.not_true,cond_false,cond_true,h3,fG,eD,fy,dq,n1];unfold kg;have Db:(O==([108,105,110,107]:F))=(O==iy):=rfl;have xX:(O==([100,105,114]:F))=(O==iA):=rfl;have uy:(O==([102,105,108,101]:F))=(O==iO):=rfl;simp only[Db,xX];cases fc:O==iy with
   |true=>
    simp only[cond_true];refine⟨rest,⟨aP,3,0,w2⟩,?_,fun q al=>?_⟩
    ·cases more==[]<;>rfl
    ·cases MD:more==[]<;>rw[MD] at al<;>simp at al
     exact al.symm
   |false=>
    simp only[cond_false];cases EX:fO 7 aP with
    |false=>
     simp only[Bool.not_false,cond_true,cond_false];exact zero rfl rfl
    |true=>
     simp only[Bool.not_true,cond_true,cond_false];cases EY:O==iA with
     |true=>
      simp only[cond_true];refine⟨rest,⟨w2,1,df aP,[]⟩,?_,fun q al=>?_⟩
      ·cases more==[]<;>rfl
      ·cases MD:more==[]<;>rw[MD] at al<;>simp at al
       exact al.symm
     |false=>
      simp only[cond_false,Gt,fG,Option.bind_some,uy];cases ayr:O==iO with
      |false=>
       simp only[Bool.not_false,Bool.not_true,cond_true,cond_false,Option.bind_some];exact zero rfl rfl
      |true=>
       simp only[Bool.not_false,Bool.not_true,cond_true,cond_false,Option.bind_some];match more,hm,fG,eD,fy,h3,dq,hw with
       |[],hm,fG,eD,fy,h3,dq,hw=>exact zero rfl rfl
       |cr::pP::m,hm,fG,eD,fy,h3,dq,hw=>
        have:((((O::aP::w2::cr::pP::m).length:Nat):Int) !=4)=true:=by rw[bne_iff_ne];simp;omega
        simp only[this,cond_true];exact zero rfl rfl
       |[cr],hm,fG,eD,fy,h3,dq,hw=>
        have aE:(((([O,aP,w2,cr]:List F).length:Nat):Int) !=4)=false:=rfl;have j7:aQ [O,aP,w2,cr] (3:Int)=some cr:=rfl;have m3:=hm cr (by simp)
        have e0:=zM cr 80 (by unfold am;omega)
        simp only[aE,cond_false,j7,Option.bind_some,e0,Gs];unfold C3;cases NG:fO 80 cr with
        |false=>
         simp only[Bool.not_false,Bool.not_true,cond_true,cond_false,Option.bind_some];exact zero rfl rfl
        |true=>
         obtain⟨b1,b2⟩:=adt NG;obtain⟨n,hn⟩:=Int.eq_ofNat_of_zero_le b1;simp only[Bool.not_false,Bool.not_true,cond_true,cond_false,Option.bind_some,hn,Int.toNat_natCast];rw[hn] at b2;by_cases hle:rest.length<=n
         ·have d1:decide (((rest.length:Nat):Int)<=(n:Int))=true:=decide_eq_true (by omega)
          have d2:rest.drop n=[]:=List.drop_eq_nil_of_le hle;simp only[d1,Bool.not_true,cond_false,Option.bind_some,cond_true,d2];exact zero rfl rfl
         ·have d1:decide (((rest.length:Nat):Int)<=(n:Int))=false:=decide_eq_false (by omega)
          obtain⟨b,eE,Y⟩:∃b eE,rest.drop n=b::eE:=by
           cases h:rest.drop n with
           |nil=>have:=List.drop_eq_nil_iff.1 h;omega
           |cons b eE=>exact⟨b,eE,rfl⟩
          have atI:aQ rest (n:Int)=some b:=by
           rw[cc];have:rest[n]? =(rest.drop n)[0]? :=by simp
           rw[this,Y];rfl
          simp only[d1,Bool.not_false,cond_true,atI,Option.bind_some,Y];by_cases MY:b=10
          ·subst MY;have t:((((10:UInt8).toNat:Nat):Int) !=10)=false:=rfl;have s1:bD rest 0 (n:Int)=some (rest.take n):=iJ (by omega)
           have hw1:IntKind.i64.wrap ((n:Int)+1)=((n+1:Nat):Int):=b6 (by unfold am;omega)
           have cV:rest.drop (n+1)=eE:=by rw[<-List.drop_drop,Y];rfl
           have s2:bD rest ((n+1:Nat):Int) ((rest.length:Nat):Int)=some eE:=by rw[hI (by omega),cV]
           simp only[t,cond_false,s1,hw1,s2,Option.bind_some];exact⟨eE,⟨w2,2,df aP,rest.take n⟩,rfl,fun q al=>by simp at al;exact al.symm⟩
          ·have t:(((b.toNat:Nat):Int) !=10)=true:=by
            rw[bne_iff_ne];intro h;exact MY (UInt8.toNat_inj.1 (by show b.toNat=10;omega))
           simp only[t,cond_true];refine zero ?_ rfl;split
           ·rename_i h;cases h;exact absurd rfl MY
           ·rfl
noncomputable abbrev aqY:bl:=[(86,yW),(207,Yg)]
theorem LS:bc Z (bi ak aqY):=bj ⟨D1,an6,⟨⟩⟩
abbrev Qd:Shape:=⟨[a' 4 3000256,a8 6 6 0,aq 7,aC 8],[bg 3000256 .entry 4 0,a7 6 [ax,bz,bz,ax]],34⟩
abbrev PW:List aR:=[(.norm,⟨[a' 4 3000256,a8 6 6 0,aq 7,aC 24],[bg 3000256 .entry 4 0,a7 6 [ax,bz,bz,ax]],34⟩)]
noncomputable def tp(y:Qd.J):Option (aF PW):=
 bif(!(!y.1.2.2.2.1)) then
 some (((),(),y.1.2.2.1,((y.2.1.length:Int)==(16:Int)),()),y.2.1,(y.2.2.1.1,y.2.2.1.2.1,y.2.2.1.2.2.1,y.2.2.1.2.2.2.1,()),())
else
 some (((),(),y.1.2.2.1,true,()),y.2.1,(y.2.2.1.1,y.2.2.1.2.1,y.2.2.1.2.2.1,y.2.2.1.2.2.2.1,()),())
theorem afJ:aX Z (ap (di (ap (codeOf Tryz.f154) 1 60)) 120 3860) (bb Qd PW tp):=c8 LS (by kernel_rfl) aj fun y=>by kernel_rfl
abbrev Bo:Shape:=⟨[a' 4 3000256,aq 5],[bg 3000256 .entry 4 0],34⟩
abbrev Il:List aR:=[(.ret,⟨[a' 2 3000128,aC 3],[bg 3000128 .entry 2 0],34⟩),(.exit 0,⟨[a' 4 3000256],[bg 3000256 .entry 4 0],34⟩)]
noncomputable def rH(y:Bo.J):bR Bo Il:=
 bif(!(y.1.2.1==([]:F))) then
(f207 ((y.1.2.1,()),())).bind fun a=>
(tp (((),(),a.1.2.1,a.1.2.2.1,()),y.2.1,(a.2.1.1,a.2.1.2.1,a.2.1.2.2.1,a.2.1.2.2.2.1,()),())).bind fun b=>
 bif b.1.2.2.2.1 then
 some (.inr (.inl (((),false,()),([]:List aG),())))
else
(cw 48 b.2.1 ([(aG.mk b.2.2.1.1 b.2.2.1.2.1 b.2.2.1.2.2.1 b.2.2.1.2.2.2.1)]:List aG)).bind fun c=>
 some (.inl (((),b.1.2.2.1,()),c,()))
else
 some (.inr (.inr (((),()),y.2.1,())))
noncomputable def wP:Bo.J->Option (aF Il):=bu rH
theorem ajv:aX Z (ap (codeOf Tryz.f154) 1 60) (bb Bo Il wP):=bW LS (by kernel_rfl) (bd afJ aj) fun y=>by kernel_rfl
abbrev i154:Shape:=⟨[aq 0],[],34⟩
abbrev WJ:Shape:=⟨[a' 2 3000128,aC 3],[bg 3000128 .entry 2 0],34⟩
noncomputable def f154(a:i154.J):Option WJ.J:=
(wP (((),a.1.1,()),([]:List aG),())).bind fun b=>
(match b with
|.inl c=>
 some (((),c.1.2.1,()),c.2.1,())
|.inr d=>
(f86 ((d.2.1,()),())).bind fun e=>
 bif(!e.1.1) then
 some (((),false,()),([]:List aG),())
else
 some (((),true,()),d.2.1,()))
noncomputable def YA:aK:=a6 ak Tryz.f154 i154 WJ [] f154
theorem z154:aL Z 154 YA:=ba LS Tryz.func154 (by kernel_rfl) (bd ajv aj) (fun y=>by kernel_rfl) fun a=>by kernel_rfl
theorem G6{n:Nat}{m:Int}(h:(n:Int)<=m)(hC:n<1000000000):fO m (Lib.itoa (n:Int))=true/\df (Lib.itoa (n:Int))=(n:Int):=by
 rw[rr];exact⟨ahO h hC,Jj n⟩
theorem Oh(ws:List F)(k:Nat)(h:ws≠[])(hn:∀w,w∈ws->ck 32 w)(hk:ws.length<=k+1):splitN 32 k (mg ws)=ws:=by
 have:=Pt h hn;rw[zA 32 k _ (by rw[this];exact hk),this]
theorem Ql{e:aG}(h:fh e=true)(r:F):n_ (ey e++r)=some (e,r):=by
 have hw:=(FP h).1;unfold n_;rw[Qu h];show kg (splitN 32 4 (qv e)) (xr e r)=_;obtain⟨n,hn,jo⟩:=G7 h;obtain⟨g1,g2⟩:=G6 (n:=n) (m:=7) (by omega) (by omega)
 have nx:splitN 32 4 (qv e)=mS e:=Oh _ 4 (by unfold mS;cases e.kind==1<;>cases e.kind==3<;>simp) hw (by unfold mS;cases e.kind==1<;>cases e.kind==3<;>simp)
 rw[nx];obtain⟨p,k,m,t⟩:=e;have hn:m=n:=hn;subst hn;rcases vZ h with hk|hk|hk
 ·have hk:k=1:=hk;subst hk;have ao:t=[]:=QI h rfl;subst ao;show kg [iA,Lib.itoa (n:Int),p] r=_;unfold kg;have e1:(iA==iy)=false:=by decide
  have e2:(iA==iA)=true:=by decide
  simp only[e1,e2,g1,g2,cond_true,cond_false];rfl
 ·have hk:k=2:=hk;subst hk;have hb:t.length<=80:=by
   have:=Pz h rfl;unfold o8 at this;simp only[Bool.and_eq_true,decide_eq_true_eq] at this;exact this.2
  obtain⟨aw,an⟩:=G6 (n:=t.length) (m:=80) (by omega) (by omega)
  show kg [iO,Lib.itoa (n:Int),p,Lib.itoa (t.length:Int)] (t++10::r)=_;unfold kg;have e1:(iO==iy)=false:=by decide
  have e2:(iO==iA)=false:=by decide
  have bp:(iO==iO)=true:=by decide
  simp only[e1,e2,bp,g1,g2,cond_true,cond_false];unfold C3;have d1:(t++10::r).drop t.length=10::r:=by simp
  have d2:(t++10::r).take t.length=t:=by simp
  simp only[aw,an,cond_true,Int.toNat_natCast,d1,d2,g2]
 ·have hk:k=3:=hk;subst hk;obtain⟨_,hm⟩:=FM h rfl;have hm:(n:Int)=0:=hm;show kg [iy,p,t] r=_;unfold kg;have e1:(iy==iy)=true:=by decide
  simp only[e1,cond_true];rw[hm];rfl
theorem F7{s r:F}{e:aG}(h:n_ s=some (e,r)):e.path.length<=s.length/\e.text.length<=s.length/\r.length<s.length:=by
 unfold n_ at h;cases al:dv 10 s with
 |none=>rw[al] at h;cases h
 |some q=>
  obtain⟨bV,rest⟩:=q;rw[al] at h;have hl:=(jO al).1;have hl:s.length=bV.length+1+rest.length:=by rw[hl];simp;omega
  have hm:=rc 32 4 bV;have h:kg (splitN 32 4 bV) rest=some (e,r):=h;generalize splitN 32 4 bV=ws at h hm;match ws,h,hm with
  |[],h,hm=>cases h
  |[_],h,hm=>cases h
  |[_,_],h,hm=>cases h
  |O::aP::w2::more,h,hm=>
   have m1:=hm aP (by simp)
   have m2:=hm w2 (by simp)
   unfold kg at h;simp only at h;cases fc:O==iy<;>simp only[fc,cond_true,cond_false] at h
   ·cases e1:fO 7 aP<;>simp only[e1,cond_true,cond_false] at h
    ·cases h
    ·cases e2:O==iA<;>simp only[e2,cond_true,cond_false] at h
     ·cases bp:O==iO<;>simp only[bp,cond_true,cond_false] at h
      ·cases h
      ·split at h
       ·rename_i cr;unfold C3 at h;cases dU:fO 80 cr<;>simp only[dU,cond_true,cond_false] at h
        ·cases h
        ·split at h
         ·rename_i eE Y;simp only[Option.some.injEq,Prod.mk.injEq] at h;obtain⟨rfl,rfl⟩:=h;have MF:=congrArg List.length Y;simp only[List.length_drop,List.length_cons] at MF;refine⟨by show w2.length<=_;omega,by show(rest.take _).length<=_;simp;omega,by omega⟩
         ·cases h
       ·cases h
     ·cases bp:more==[]<;>simp only[bp,cond_true,cond_false] at h
      ·cases h
      ·simp only[Option.some.injEq,Prod.mk.injEq] at h;obtain⟨rfl,rfl⟩:=h;exact⟨by show w2.length<=_;omega,by show 0<=_;omega,by omega⟩
   ·cases bp:more==[]<;>simp only[bp,cond_true,cond_false] at h
    ·cases h
    ·simp only[Option.some.injEq,Prod.mk.injEq] at h;obtain⟨rfl,rfl⟩:=h;exact⟨by show aP.length<=_;omega,by show w2.length<=_;omega,by omega⟩
def qM(k:Nat)(t:List aG):Prop:=∀e,e∈t->e.path.length<=k/\e.text.length<=k
theorem akQ:∀(m:Nat) (s:F) (t:List aG),s.length<=m->m<=1000000->t.length<=16->qM 1000000 t->
  (∃ns:List aG,wP (((),(s,())),(t,()))=some (.inr (((),()),(ns,())))/\ns.length<=16/\qM 1000000 ns)\/wP (((),(s,())),(t,()))=some (.inl (((),(false,())),(([]:List aG),()))):=by
 intro m;induction m with
 |zero=>
  intro s t hs _ ao ha;have:s=[]:=List.length_eq_zero_iff.1 (by omega)
  subst this;exact .inl ⟨t,cx rfl,ao,ha⟩
 |succ m ih=>
  intro s t hs hm ao ha;cases s with
  |nil=>exact .inl ⟨t,cx rfl,ao,ha⟩
  |cons b iX=>
   have hne:((b::iX)==([]:F))=false:=rfl;generalize ee:b::iX=s at hs hne;obtain⟨r,e,h1,h2⟩:=Ox s (by omega)
   cases hr:n_ s with
   |none=>
    rw[hr] at h1;refine .inr (cx ?_);simp only[rH,hne,Bool.not_false,cond_true,h1,Option.bind_some,Option.isSome_none,tp,Bool.not_true,cond_false]
   |some q=>
    have al:=h2 q hr;subst al;rw[hr] at h1;obtain⟨c9,fU,y5⟩:=F7 hr;by_cases yS:t.length=16
    ·refine .inr (cx ?_);have d:(((t.length:Nat):Int)==16)=true:=by rw[beq_iff_eq];omega
     simp only[rH,hne,Bool.not_false,cond_true,h1,Option.bind_some,Option.isSome_some,tp,Bool.not_true,cond_false,d]
    ·have d:(((t.length:Nat):Int)==16)=false:=by rw[beq_eq_false_iff_ne];omega
     have fx:cw 48 t ([(aG.mk e.path e.kind e.mode e.text)]:List aG)=some (t++[e]):=ew (by decide) (by unfold am;simp;omega)
     have st:rH (((),(s,())),(t,()))=some (.inl (((),(r,())),(t++[e],()))):=by
      simp only[rH,hne,Bool.not_false,cond_true,h1,Option.bind_some,Option.isSome_some,tp,Bool.not_true,cond_false,d,fx]
     have ap3:qM 1000000 (t++[e]):=fun x hx=>by
      rcases List.mem_append.1 hx with hx|hx
      ·exact ha x hx
      ·rw[List.mem_singleton.1 hx];exact⟨by omega,by omega⟩
     rcases ih r (t++[e]) (by omega) (by omega) (by simp;omega) ap3 with⟨ns,g1,g2,g3⟩|g1
     ·exact .inl ⟨ns,(dL st).trans g1,g2,g3⟩
     ·exact .inr ((dL st).trans g1)
theorem akP:∀(b5 t:List aG),(∀e,e∈b5->fh e=true)->t.length+b5.length<=16->(dm b5).length<=1000000->
  wP (((),(dm b5,())),(t,()))=some (.inr (((),()),(t++b5,()))):=by
 intro b5;induction b5 with
 |nil=>intro t _ _ _;rw[List.append_nil];exact cx rfl
 |cons e b5 ih=>
  intro t h ao hl;have he:=h e List.mem_cons_self;have hr:=Ql he (dm b5);have hE:dm (e::b5)=ey e++dm b5:=by unfold dm;rw[List.flatMap_cons]
  rw[hE] at hl ⊢;have hlen:=(F7 hr).2.2;have hne:((ey e++dm b5)==([]:F))=false:=by
   cases hx:ey e++dm b5 with
   |nil=>rw[hx] at hlen;simp at hlen
   |cons b r=>rfl
  obtain⟨r,b_,h1,h2⟩:=Ox (ey e++dm b5) hl;have al:=h2 _ hr;simp only[Prod.mk.injEq] at al;obtain⟨rfl,rfl⟩:=al;rw[hr] at h1;have d:(((t.length:Nat):Int)==16)=false:=by rw[beq_eq_false_iff_ne];simp at ao;omega
  have fx:cw 48 t ([(aG.mk e.path e.kind e.mode e.text)]:List aG)=some (t++[e]):=ew (by decide) (by unfold am;simp;simp at ao;omega)
  have st:rH (((),(ey e++dm b5,())),(t,()))=some (.inl (((),(dm b5,())),(t++[e],()))):=by
   simp only[rH,hne,Bool.not_false,cond_true,h1,Option.bind_some,Option.isSome_some,tp,Bool.not_true,cond_false,d,fx]
  have:=ih (t++[e]) (fun x hx=>h x (List.mem_cons_of_mem _ hx)) (by simp at ao ⊢;omega) (by omega)
  rw[List.append_assoc] at this;exact(dL st).trans this
theorem abl(s:F)(hs:s.length<=1000000):∃(ok:Bool) (t:List aG),f154 ((s,()),())=some (((),(ok,())),(t,()))/\t.length<=16/\qM 1000000 t:=by
 rcases akQ s.length s [] (Nat.le_refl _) hs (by decide) (fun x hx=>by cases hx) with⟨ns,g1,g2,g3⟩|g1
 ·have ao:=rf ((ns,()),()) ⟨by show ns.length<=2097152;omega,fun e he=>by have:=g3 e he;exact⟨by show e.path.length<=2097152;omega,by show e.text.length<=2097152;omega⟩⟩
  have ao:f86 ((ns,()),())=some ((dY ns,()),()):=ao;simp only[f154,g1,Option.bind_some,ao];cases dY ns with
  |false=>exact⟨false,[],rfl,by simp,fun x hx=>by cases hx⟩
  |true=>exact⟨true,ns,rfl,g2,g3⟩
 ·simp only[f154,g1,Option.bind_some];exact⟨false,[],rfl,by simp,fun x hx=>by cases hx⟩
theorem abk(t:List aG)(h:dY t=true)(hs:(dm t).length<=1000000)(hb:jk t):
  f154 ((dm t,()),())=some (((),(true,())),(t,())):=by
 have g1:=akP t [] (vV h) (by have:=j' h;simpa using this) hs
 have ao:=rf ((t,()),()) hb;have ao:f86 ((t,()),())=some ((dY t,()),()):=ao;simp only[f154,g1,List.nil_append,Option.bind_some,ao,h,Bool.not_true,cond_false]
noncomputable abbrev aqZ:bl:=[(150,x5),(205,Yi),(206,Yh)]
theorem LU:bc Z (bi ak aqZ):=bj ⟨Du,an7,z206,⟨⟩⟩
abbrev Qe:Shape:=⟨[a' 5 3000320,aq 7,aC 10,a8 11 11 0,aC 12],[bg 3000320 .need 5 0,a7 11 [ax,bz,ax]],46⟩
abbrev PX:List aR:=[(.norm,⟨[a' 5 3000320,aq 7,a8 11 11 0,aC 40],[bg 3000320 .need 5 0,a7 11 [ax,bz,ax]],46⟩)]
noncomputable def wc(y:Qe.J):Option (aF PX):=
 bif(!(!y.1.2.2.1)) then
 some (((),y.1.2.1,(),(!y.1.2.2.2.2.1),()),y.2.1,(y.2.2.1.1,y.2.2.1.2.1,y.2.2.1.2.2.1,()),())
else
 some (((),y.1.2.1,(),true,()),y.2.1,(y.2.2.1.1,y.2.2.1.2.1,y.2.2.1.2.2.1,()),())
theorem afK:aX Z (ap (di (ap (codeOf Tryz.f153) 1 14)) 28 7292) (bb Qe PX wc):=c8 LU (by kernel_rfl) aj fun y=>by kernel_rfl
abbrev Bp:Shape:=⟨[aq 0,a' 5 3000320],[bg 3000320 .need 5 0],46⟩
abbrev Im:List aR:=[(.ret,⟨[a' 2 3000128,aq 3,aC 4],[bg 3000128 .need 2 0],46⟩)]
noncomputable def mR(y:Bp.J):bR Bp Im:=
(f150 ((y.1.1,([10]:F),()),())).bind fun a=>
 bif(!a.1.2.2.1) then
 some (.inr (((),([]:F),false,()),([]:List bG),()))
else
 bif(a.1.1==([]:F)) then
 some (.inr (((),a.1.2.1,true,()),y.2.1,()))
else
(f205 ((a.1.1,([110,101,101,100,32]:F),()),())).bind fun b=>
(f206 ((b.1.1,()),())).bind fun c=>
(wc (((),a.1.2.1,b.1.2.1,(),c.1.2.1,()),y.2.1,(c.2.1.1,c.2.1.2.1,c.2.1.2.2.1,()),())).bind fun d=>
 bif d.1.2.2.2.1 then
 some (.inr (((),([]:F),false,()),([]:List bG),()))
else
(cw 40 d.2.1 ([(bG.mk d.2.2.1.1 d.2.2.1.2.1 d.2.2.1.2.2.1)]:List bG)).bind fun e=>
 some (.inl ((d.1.2.1,(),()),e,()))
noncomputable def BC:Bp.J->Option (aF Im):=bu mR
theorem ajw:aX Z (ap (codeOf Tryz.f153) 1 14) (bb Bp Im BC):=bW LU (by kernel_rfl) (bd afK aj) fun y=>by kernel_rfl
abbrev i153:Shape:=⟨[aq 0],[],46⟩
abbrev WK:Shape:=⟨[a' 2 3000128,aq 3,aC 4],[bg 3000128 .need 2 0],46⟩
noncomputable def f153(a:i153.J):Option WK.J:=
(BC ((a.1.1,(),()),([]:List bG),())).bind fun b=>
 some (((),b.1.2.1,b.1.2.2.1,()),b.2.1,())
noncomputable def YB:aK:=a6 ak Tryz.f153 i153 WK [] f153
theorem aoh:aL Z 153 YB:=ba LU Tryz.func153 (by kernel_rfl) (bd ajw aj) (fun y=>by kernel_rfl) fun a=>by kernel_rfl
def u0(k:Nat)(t:List bG):Prop:=∀e,e∈t->e.name.length<=k/\e.aW.length<=k
theorem afp{a t:F}{n:bG}(h:qu a t=some n):n.name=a/\n.aW.length<=t.length:=by
 unfold qu at h;split at h
 ·cases h;exact⟨rfl,by simp;omega⟩
 ·cases h;exact⟨rfl,by simp⟩
 ·cases h;exact⟨rfl,by simp⟩
 ·cases h
theorem afr{s:F}{n:bG}(h:ll s=some n):n.name.length<=s.length/\n.aW.length<=s.length:=by
 unfold ll at h;split at h
 ·rename_i k _;obtain⟨h1,h2⟩:=afp h;rw[h1];simp at h2 ⊢;omega
 ·cases h;exact⟨Nat.le_refl _,by simp⟩
theorem aid(s:F):((eY s).getD iU).name.length<=s.length/\((eY s).getD iU).aW.length<=s.length:=by
 have no:eY s=none->((eY s).getD iU).name.length<=s.length/\((eY s).getD iU).aW.length<=s.length:=fun h=>by
  rw[h];exact⟨Nat.zero_le _,Nat.zero_le _⟩
 cases h:ll s with
 |none=>exact no (by unfold eY;rw[h])
 |some n=>
  have hG:eY s=bif dB n then some n else none:=by unfold eY;rw[h]
  cases hk:dB n with
  |true=>rw[hG,hk];exact afr h
  |false=>exact no (by rw[hG,hk];rfl)
theorem QL{p s r:F}(h:dZ p s=some r):r.length<=s.length:=by
 unfold dZ at h;cases hc:decide (p.length<=s.length)&&s.take p.length==p with
 |false=>rw[hc] at h;cases h
 |true=>rw[hc] at h;cases h;simp
theorem aie(p s:F):((dZ p s).getD s).length<=s.length:=by
 cases h:dZ p s with
 |none=>exact Nat.le_refl _
 |some r=>exact QL h
theorem akW:∀(m:Nat) (s:F) (t:List bG),s.length<=m->t.length+m<=1000000->u0 1000000 t->
  ∃(r:F) (ok:Bool) (ns:List bG),BC ((s,((),())),(t,()))=some (((),(r,(ok,()))),(ns,()))/\r.length<=s.length/\ns.length<=1000000/\u0 1000000 ns:=by
 intro m;induction m with
 |zero=>
  intro s t hs ao ha;have:s=[]:=List.length_eq_zero_iff.1 (by omega)
  subst this;have hc:=n8 10 [] (by unfold am;simp)
  have hc:f150 ((([]:F),(([10]:F),())),())=some ((([]:F),(([]:F),(false,()))),()):=hc;refine⟨[],false,[],cx ?_,by simp,by simp,fun x hx=>by cases hx⟩
  simp only[mR,hc,Option.bind_some,Bool.not_false,cond_true]
 |succ m ih=>
  intro s t hs ao ha;have hc:=n8 10 s (by unfold am;omega)
  have hc:f150 ((s,(([10]:F),())),())=_:=hc;cases al:dv 10 s with
  |none=>
   rw[al] at hc;refine⟨[],false,[],cx ?_,by simp,by simp,fun x hx=>by cases hx⟩
   simp only[mR,hc,Option.bind_some,Option.isSome_none,Bool.not_false,cond_true]
  |some q=>
   obtain⟨bV,rest⟩:=q;have hl:=(jO al).1;have hl:s.length=bV.length+1+rest.length:=by rw[hl];simp;omega
   have dJ:ia 10 s=bV:=by unfold ia;rw[al]
   have hB:h' 10 s=rest:=by unfold h';rw[al]
   rw[al,dJ,hB] at hc;cases he:bV==([]:F) with
   |true=>
    refine⟨rest,true,t,cx ?_,by omega,by omega,ha⟩
    simp only[mR,hc,Option.bind_some,Option.isSome_some,Bool.not_true,cond_false,he,cond_true]
   |false=>
    have hp:=OB bV [110,101,101,100,32];have hp:f205 ((bV,(([110,101,101,100,32]:F),())),())=_:=hp;have br:=aie [110,101,101,100,32] bV;generalize(dZ [110,101,101,100,32] bV).getD bV=w at hp br;have hn:=PN w (by omega)
    have Es:=aid w;cases cB:(dZ [110,101,101,100,32] bV).isSome&&(eY w).isSome with
    |false=>
     refine⟨[],false,[],cx ?_,by simp,by simp,fun x hx=>by cases hx⟩
     simp only[mR,hc,Option.bind_some,Option.isSome_some,Bool.not_true,cond_false,he,hp,hn,wc];cases jo:(dZ [110,101,101,100,32] bV).isSome with
     |false=>simp only[Bool.not_false,Bool.not_true,cond_false,cond_true,Option.bind_some]
     |true=>
      rw[jo] at cB;have cB:(eY w).isSome=false:=cB;simp only[cB,Bool.not_false,Bool.not_true,cond_false,cond_true,Option.bind_some]
    |true=>
     rw[Bool.and_eq_true] at cB;have fx:cw 40 t ([(bG.mk ((eY w).getD iU).name ((eY w).getD iU).kind ((eY w).getD iU).aW)]:List bG)=some (t++[(eY w).getD iU]):=ew (by decide) (by unfold am;simp;omega)
     have st:mR ((s,((),())),(t,()))=some (.inl ((rest,((),())),(t++[(eY w).getD iU],()))):=by
      simp only[mR,hc,Option.bind_some,Option.isSome_some,Bool.not_true,cond_false,he,hp,hn,wc,cB.1,cB.2,Bool.not_false,cond_true,fx]
     obtain⟨r,ok,ns,g1,g2,g3,g4⟩:=ih rest (t++[(eY w).getD iU]) (by omega) (by simp;omega) (fun x hx=>by
      rcases List.mem_append.1 hx with hx|hx
      ·exact ha x hx
      ·rw[List.mem_singleton.1 hx];exact⟨by omega,by omega⟩)
     exact⟨r,ok,ns,(dL st).trans g1,by omega,g3,g4⟩
theorem akV:∀(ns t:List bG) (r:F),(∀n,n∈ns->dB n=true)->t.length+ns.length<=1000->(ns.flatMap cR++10::r).length<=1000000->
  BC ((ns.flatMap cR++10::r,((),())),(t,()))=some (((),(r,(true,()))),(t++ns,())):=by
 intro ns;induction ns with
 |nil=>
  intro t r _ _ hs;have hc:=n8 10 (10::r) (by unfold am;simp at hs ⊢;omega)
  have dJ:ia 10 (10::r)=[]:=by unfold ia;rw[JL]
  have hB:h' 10 (10::r)=r:=by unfold h';rw[JL]
  rw[dJ,hB,JL] at hc;have hc:f150 ((10::r,(([10]:F),())),())=some ((([]:F),(r,(true,()))),()):=hc;have he:(([]:F)==([]:F))=true:=rfl;rw[List.append_nil];refine cx ?_
  show mR ((10::r,((),())),(t,()))=_;simp only[mR,hc,Option.bind_some,Bool.not_true,cond_false,he,cond_true]
 |cons n ns ih=>
  intro t r h ao hs;have hk:=h n List.mem_cons_self;have gr:=afX (n:=n) (ns:=ns) (r:=10::r) hk;generalize ee:(n::ns).flatMap cR++10::r=s at hs gr;have hc:=n8 10 s (by unfold am;omega)
  have hl:=(jO gr).1;have hl:s.length=(gl++32::cS n).length+1+(ns.flatMap cR++10::r).length:=by rw[hl];simp;omega
  have dJ:ia 10 s=gl++32::cS n:=by unfold ia;rw[gr]
  have hB:h' 10 s=ns.flatMap cR++10::r:=by unfold h';rw[gr]
  rw[dJ,hB,gr] at hc;have hc:f150 ((s,(([10]:F),())),())=some ((gl++32::cS n,(ns.flatMap cR++10::r,(true,()))),()):=hc;have he:((gl++32::cS n)==([]:F))=false:=rfl;have Y:dZ [110,101,101,100,32] (gl++32::cS n)=some (cS n):=wg [110,101,101,100,32] (cS n);have hp:=OB (gl++32::cS n) [110,101,101,100,32];rw[Y] at hp;have hp:f205 ((gl++32::cS n,(([110,101,101,100,32]:F),())),())=some ((cS n,(true,())),()):=hp;have hn:=PN (cS n) (by simp[gl] at hl;omega)
  rw[aic hk] at hn;have hn:f206 ((cS n,()),())=some (((),(true,())),((n.name,(n.kind,(n.aW,()))),())):=hn;have fx:cw 40 t ([(bG.mk n.name n.kind n.aW)]:List bG)=some (t++[n]):=ew (by decide) (by unfold am;simp;simp at ao;omega)
  have st:mR ((s,((),())),(t,()))=some (.inl ((ns.flatMap cR++10::r,((),())),(t++[n],()))):=by
   simp only[mR,hc,Option.bind_some,Bool.not_true,cond_false,he,hp,hn,wc,Bool.not_false,cond_true,fx]
  have:=ih (t++[n]) r (fun x hx=>h x (List.mem_cons_of_mem _ hx)) (by simp at ao ⊢;omega) (by omega)
  rw[List.append_assoc] at this;exact(dL st).trans this
theorem abb(s:F)(hs:s.length<=1000000):∃(r:F) (ok:Bool) (ns:List bG),f153 ((s,()),())=some (((),(r,(ok,()))),(ns,()))/\r.length<=s.length/\ns.length<=1000000/\u0 1000000 ns:=by
 obtain⟨r,ok,ns,g1,g2⟩:=akW s.length s [] (Nat.le_refl _) (by simpa using hs) (fun x hx=>by cases hx)
 exact⟨r,ok,ns,by simp only[f153,g1,Option.bind_some],g2⟩
theorem aba(ns:List bG)(r:F)(h:∀n,n∈ns->dB n=true)(hl:ns.length<=1000)(hs:(ns.flatMap cR++10::r).length<=1000000):
  f153 ((ns.flatMap cR++10::r,()),())=some (((),(r,(true,()))),(ns,())):=by
 have g1:=akV ns [] r h (by simpa using hl) hs
 simp only[f153,g1,Option.bind_some,List.nil_append]
noncomputable abbrev au8:bl:=[(74,EK),(150,x5),(152,YC),(153,YB),(154,YA),(155,Yz)]
theorem _9:bc Z (bi ak au8):=bj ⟨LZ,Du,z152,aoh,z154,aog,⟨⟩⟩
abbrev P7:Shape:=⟨[aq 0,a8 2 2 0,a8 11 11 0,aC 14],[bI 5000130 .need 2 2,bI 5000131 .entry 2 3,a7 2 [ax,ax,.own 5000130,.own 5000131],bI 5000706 .need 11 2,bI 5000707 .entry 11 3,a7 11 [ax,ax,.own 5000706,.own 5000707]],76⟩
abbrev PO:List aR:=[(.norm,⟨[a8 2 2 0,a8 11 11 0,aC 73],[bI 5000130 .need 2 2,bI 5000131 .entry 2 3,a7 2 [ax,ax,.own 5000130,.own 5000131],bI 5000706 .need 11 2,bI 5000707 .entry 11 3,a7 11 [ax,ax,.own 5000706,.own 5000707]],76⟩)]
noncomputable def ri(y:P7.J):Option (aF PO):=
 bif(!(!y.1.2.2.2.1)) then
(f74 (((y.2.2.2.2.2.2.1.1,y.2.2.2.2.2.2.1.2.1,y.2.2.2.2.1,y.2.2.2.2.2.1,()),()),())).bind fun a=>
 bif(!(!a.1.1)) then
(f155 (((y.2.2.2.2.2.2.1.1,y.2.2.2.2.2.2.1.2.1,y.2.2.2.2.1,y.2.2.2.2.2.1,()),()),())).bind fun b=>
 some (((),(),(!(b.1.1==y.1.1)),()),y.2.1,y.2.2.1,(y.2.2.2.1.1,y.2.2.2.1.2.1,(),(),()),y.2.2.2.2.1,y.2.2.2.2.2.1,(y.2.2.2.2.2.2.1.1,y.2.2.2.2.2.2.1.2.1,(),(),()),())
else
 some (((),(),true,()),y.2.1,y.2.2.1,(y.2.2.2.1.1,y.2.2.2.1.2.1,(),(),()),y.2.2.2.2.1,y.2.2.2.2.2.1,(y.2.2.2.2.2.2.1.1,y.2.2.2.2.2.2.1.2.1,(),(),()),())
else
 some (((),(),true,()),y.2.1,y.2.2.1,(y.2.2.2.1.1,y.2.2.2.1.2.1,(),(),()),y.2.2.2.2.1,y.2.2.2.2.2.1,(y.2.2.2.2.2.2.1.1,y.2.2.2.2.2.2.1.2.1,(),(),()),())
theorem afu:aX Z (ap (codeOf Tryz.f95) 1 16380) (bb P7 PO ri):=c8 _9 (by kernel_rfl) aj fun y=>by kernel_rfl
abbrev i95:Shape:=⟨[aq 0],[],76⟩
abbrev yf:Shape:=⟨[a8 2 2 0,aC 3],[bI 5000130 .need 2 2,bI 5000131 .entry 2 3,a7 2 [ax,ax,.own 5000130,.own 5000131]],76⟩
noncomputable def f95(a:i95.J):Option yf.J:=
 bif(decide ((a.1.1.length:Int)>(4000:Int))) then
 some (((),false,()),([]:List bG),([]:List aG),(([]:F),([]:F),(),(),()),())
else
(f150 ((a.1.1,([10]:F),()),())).bind fun b=>
(f150 ((b.1.2.1,([10]:F),()),())).bind fun c=>
(f152 ((c.1.1,([32]:F),()),())).bind fun d=>
 bif((d.1.1.length:Int) !=(3:Int)) then
 some (((),false,()),([]:List bG),([]:List aG),(([]:F),([]:F),(),(),()),())
else
(aQ d.1.1 (1:Int)).bind fun e=>
(aQ d.1.1 (2:Int)).bind fun f=>
(f153 ((c.1.2.1,()),())).bind fun g=>
 bif(!g.1.2.2.1) then
 some (((),false,()),([]:List bG),([]:List aG),(([]:F),([]:F),(),(),()),())
else
(f154 ((g.1.2.1,()),())).bind fun h=>
(ri ((a.1.1,(),(),h.1.2.1,()),([]:List bG),([]:List aG),(([]:F),([]:F),(),(),()),g.2.1,h.2.1,(e,f,(),(),()),())).bind fun i=>
 bif i.1.2.2.1 then
 some (((),false,()),([]:List bG),([]:List aG),(([]:F),([]:F),(),(),()),())
else
 some (((),true,()),i.2.2.2.2.1,i.2.2.2.2.2.1,(i.2.2.2.2.2.2.1.1,i.2.2.2.2.2.2.1.2.1,(),(),()),())
noncomputable def _I:aK:=a6 ak Tryz.f95 i95 yf [] f95
theorem ar0:aL Z 95 _I:=ba _9 Tryz.func95 (by kernel_rfl) (bd afu aj) (fun y=>by kernel_rfl) fun a=>by kernel_rfl
theorem Fl{aB:Type}(f:aB->F):∀{xs:List aB} {x:aB},x∈xs->(f x).length<=(xs.flatMap f).length:=by
 intro xs;induction xs with
 |nil=>intro x h;cases h
 |cons y ys ih=>
  intro x h;rw[List.flatMap_cons,List.length_append];rcases List.mem_cons.1 h with rfl|h
  ·omega
  ·have:=ih h;omega
theorem agc{e:aG}(h:fh e=true):e.path.length<=(ey e).length/\e.text.length<=(ey e).length:=by
 have hc:=F7 (Ql h []);rw[List.append_nil] at hc;exact⟨hc.1,hc.2.1⟩
theorem zE(p:aT):(du p).length<=(bO p).length/\p.name.length+p.aW.length+(p.bh.flatMap cR++10::dm p.bK).length+10<=(du p).length+10/\(dm p.bK).length<=(du p).length/\(p.bh.flatMap cR).length<=(du p).length:=by
 have h1:(bO p).length=(e6 p).length+1+(du p).length:=by rw[wK];simp;omega
 have h2:(du p).length=(eb p).length+1+(jv p).length:=by rw[wC];simp;omega
 have h3:(eb p).length=4+1+(p.name.length+1+p.aW.length):=by unfold eb;simp[mg,je];omega
 have aE:(jv p).length=(p.bh.flatMap cR).length+1+(dm p.bK).length:=by unfold jv;rw[List.length_append,List.length_cons];omega
 have br:(p.bh.flatMap cR++10::dm p.bK).length=(jv p).length:=rfl;omega
theorem JI{p:aT}(hk:cT p=true)(hl:(bO p).length<=4000):k6 p:=by
 obtain⟨h1,h2,h3,aE,_,cB⟩:=oO hk;obtain⟨q1,q2,dq,kB⟩:=zE p;refine⟨by show p.name.length<=2097152;omega,by show p.aW.length<=2097152;omega,⟨by show p.bh.length<=2097152;omega,fun n hn=>?_⟩,⟨by show p.bK.length<=2097152;have:=j' cB;omega,fun e he=>?_⟩⟩
 ·have h:=Fl cR hn;have fv:(cR n).length=(cS n).length+6:=by unfold cR;simp
  have hp:n.name.length+n.aW.length<=(cS n).length:=by unfold cS;simp
  exact⟨by show n.name.length<=2097152;omega,by show n.aW.length<=2097152;omega⟩
 ·have h:=Fl ey he;have h:(ey e).length<=(dm p.bK).length:=h;have:=agc (vV cB e he);exact⟨by show e.path.length<=2097152;omega,by show e.text.length<=2097152;omega⟩
abbrev s5(p:aT):yf.J:=(((),(true,())),(p.bh,(p.bK,((p.name,(p.aW,((),((),())))),()))))
abbrev NN:yf.J:=(((),(false,())),(([]:List bG),(([]:List aG),((([]:F),(([]:F),((),((),())))),()))))
theorem al1{p q:aT}(h:s5 p=s5 q):p=q:=by
 obtain⟨a,b,c,d⟩:=p;obtain⟨cP,bf,fV,aaN⟩:=q;simp only[s5,Prod.mk.injEq] at h;obtain⟨_,rfl,rfl,⟨rfl,rfl,_⟩,_⟩:=h;rfl
theorem Fa{p:aT}(hk:cT p=true)(hl:(bO p).length<=4000):f95 ((bO p,()),())=some (s5 p):=by
 have hb:=JI hk hl;obtain⟨h1,h2,h3,aE,_,cB⟩:=oO hk;obtain⟨q1,q2,dq,kB⟩:=zE p;have d:decide (((bO p).length:Int)>4000)=false:=decide_eq_false (by omega)
 have c1:=n8 10 (bO p) (by unfold am;omega)
 have a1:h' 10 (bO p)=du p:=by unfold h';rw[ahJ]
 rw[a1] at c1;have c1:f150 ((bO p,(([10]:F),())),())=_:=c1;have c2:=n8 10 (du p) (by unfold am;omega)
 have a2:h' 10 (du p)=jv p:=by unfold h';rw[QR hk]
 have a3:ia 10 (du p)=eb p:=by unfold ia;rw[QR hk]
 rw[a2,a3] at c2;have c2:f150 ((du p,(([10]:F),())),())=_:=c2;have bT:(eb p).length<=(du p).length:=by rw[wC];simp
 have c3:=PM (eb p) (by omega)
 rw[Fw hk] at c3;have e0:(((([je,p.name,p.aW]:List F).length:Nat):Int) !=3)=false:=rfl;have eD:aQ [je,p.name,p.aW] (1:Int)=some p.name:=rfl;have fy:aQ [je,p.name,p.aW] (2:Int)=some p.aW:=rfl;have dh:=aba p.bh (dm p.bK) h3 (by omega) (by omega)
 have dh:f153 ((jv p,()),())=_:=dh;have hS:=abk p.bK cB (by omega) hb.2.2.2
 have c6:=zN (((p.name,(p.aW,(p.bh,(p.bK,())))),()),()) hb;have c6:f74 (((p.name,(p.aW,(p.bh,(p.bK,())))),()),())=some ((cT p,()),()):=c6;have nM:=O8 p hb;rw[hk] at c6 nM;simp only[f95,d,cond_false,c1,c2,c3,e0,eD,fy,dh,hS,Option.bind_some,Bool.not_true,Bool.not_false,ri,cond_true,c6,nM,beq_self_eq_true]
theorem abi(s:F)(hs:am s.length):f95 ((s,()),())=some NN\/∃p:aT,f95 ((s,()),())=some (s5 p)/\cT p=true/\bO p=s/\s.length<=4000:=by
 by_cases hl:s.length<=4000
 ·have d:decide ((s.length:Int)>4000)=false:=decide_eq_false (by omega)
  have awd:∀t:F,(ia 10 t).length<=t.length:=fun t=>by
   unfold ia;cases h:dv 10 t with
   |none=>exact Nat.le_refl _
   |some q=>obtain⟨x,y⟩:=q;have:=(jO h).1;show x.length<=_;rw[this];simp
  have aaD:∀t:F,(h' 10 t).length<=t.length:=fun t=>by
   unfold h';cases h:dv 10 t with
   |none=>show 0<=_;omega
   |some q=>obtain⟨x,y⟩:=q;have:=(jO h).1;show y.length<=_;rw[this];simp;omega
  have c1:=n8 10 s hs;have c1:f150 ((s,(([10]:F),())),())=_:=c1;have c9:=aaD s;generalize h' 10 s=b at c1 c9;have c2:=n8 10 b (by unfold am;omega)
  have c2:f150 ((b,(([10]:F),())),())=_:=c2;have fU:=aaD b;have y5:=awd b;generalize h' 10 b=r at c2 fU;generalize ia 10 b=Y at c2 y5;have c3:=PM Y (by omega)
  have m3:∀w,w∈bQ 32 Y->w.length<=Y.length:=fun w hw=>by
   rw[<-zz 32 Y.length Y (Nat.le_refl _)] at hw;exact rc 32 _ Y w hw
  generalize bQ 32 Y=ws at c3 m3;cases e0:(((ws.length:Nat):Int) !=3) with
  |true=>
   refine .inl ?_
   simp only[f95,d,cond_false,c1,c2,c3,e0,cond_true,Option.bind_some]
  |false=>
   obtain⟨O,bN,vs,rfl⟩:∃O bN vs,ws=[O,bN,vs]:=by
    have:ws.length=3:=by simp at e0;omega
    match ws,this with
    |[a,b,c],_=>exact⟨a,b,c,rfl⟩
   have eD:aQ [O,bN,vs] (1:Int)=some bN:=rfl;have fy:aQ [O,bN,vs] (2:Int)=some vs:=rfl;have aw:=m3 bN (by simp)
   have an:=m3 vs (by simp)
   obtain⟨eE,ok,ns,dh,cl,ed,gz⟩:=abb r (by omega)
   obtain⟨L8,t,hS,y_,Nz⟩:=abl eE (by omega)
   cases ok with
   |false=>
    refine .inl ?_
    simp only[f95,d,cond_false,c1,c2,c3,e0,eD,fy,dh,cond_true,Option.bind_some,Bool.not_false]
   |true=>
    cases L8 with
    |false=>
     refine .inl ?_
     simp only[f95,d,cond_false,c1,c2,c3,e0,eD,fy,dh,hS,cond_true,Option.bind_some,Bool.not_false,Bool.not_true,ri]
    |true=>
     have hb:k6 ⟨bN,vs,ns,t⟩:=⟨by show bN.length<=2097152;omega,by show vs.length<=2097152;omega,⟨by show ns.length<=2097152;omega,fun n hn=>by have:=gz n hn;exact⟨by show n.name.length<=2097152;omega,by show n.aW.length<=2097152;omega⟩⟩,⟨by show t.length<=2097152;omega,fun e he=>by have:=Nz e he;exact⟨by show e.path.length<=2097152;omega,by show e.text.length<=2097152;omega⟩⟩⟩
     have c6:=zN (((bN,(vs,(ns,(t,())))),()),()) hb;have c6:f74 (((bN,(vs,(ns,(t,())))),()),())=some ((cT ⟨bN,vs,ns,t⟩,()),()):=c6;have nM:=O8 ⟨bN,vs,ns,t⟩ hb;have nM:f155 (((bN,(vs,(ns,(t,())))),()),())=_:=nM;cases hk:cT ⟨bN,vs,ns,t⟩ with
     |false=>
      rw[hk] at c6;refine .inl ?_
      simp only[f95,d,cond_false,c1,c2,c3,e0,eD,fy,dh,hS,cond_true,Option.bind_some,Bool.not_false,Bool.not_true,ri,c6]
     |true=>
      rw[hk] at c6 nM;cases he:bO ⟨bN,vs,ns,t⟩==s with
      |false=>
       refine .inl ?_
       simp only[f95,d,cond_false,c1,c2,c3,e0,eD,fy,dh,hS,cond_true,Option.bind_some,Bool.not_false,Bool.not_true,ri,c6,nM,he]
      |true=>
       refine .inr ⟨⟨bN,vs,ns,t⟩,?_,hk,eq_of_beq he,hl⟩;simp only[f95,d,cond_false,c1,c2,c3,e0,eD,fy,dh,hS,cond_true,Option.bind_some,Bool.not_false,Bool.not_true,ri,c6,nM,he]
 ·have d:decide ((s.length:Int)>4000)=true:=decide_eq_true (by omega)
  refine .inl ?_
  simp only[f95,d,cond_true]
def Z2(s:F)(p:aT):Prop:=cT p=true/\bO p=s/\s.length<=4000
def aws(D:Option aT):yf.J:=match D with|some p=>s5 p|none=>NN
theorem adA(s:F)(hs:am s.length):∃D:Option aT,f95 ((s,()),())=some (aws D)/\rP D (Z2 s):=by
 rcases abi s hs with h|⟨p,h,h1,h2,h3⟩
 ·refine⟨none,h,fun p=>⟨fun hp=>(by cases hp),fun⟨q1,q2,dq⟩=>?_⟩⟩
  subst q2;have:=Fa q1 dq;rw[h] at this;simp only[Option.some.injEq,Prod.mk.injEq] at this;exact absurd this.1.2.1 (by decide)
 ·refine⟨some p,h,fun q=>⟨fun hp=>?_,fun⟨q1,q2,dq⟩=>?_⟩⟩
  ·cases hp;exact⟨h1,h2,h3⟩
  ·subst q2;have:=Fa q1 dq;rw[h] at this;rw[al1 (Option.some.inj this)]
noncomputable abbrev au9:bl:=[(150,x5),(151,DR)]
theorem _':bc Z (bi ak au9):=bj ⟨Du,KB,⟨⟩⟩
abbrev Tt:Shape:=⟨[aq 2,aq 3,aC 4,aq 6,aC 7,ad 8,aC 9],[],35⟩
abbrev Tk:List aR:=[(.norm,⟨[aq 2,aq 3,aC 4,aq 6,ad 8,aC 28],[],35⟩)]
noncomputable def xg(y:Tt.J):Option (aF Tk):=
 bif(!(!y.1.2.2.2.2.1)) then
 some ((y.1.1,y.1.2.1,y.1.2.2.1,y.1.2.2.2.1,y.1.2.2.2.2.2.1,(!y.1.2.2.2.2.2.2.1),()),())
else
 some ((y.1.1,y.1.2.1,y.1.2.2.1,y.1.2.2.2.1,y.1.2.2.2.2.2.1,true,()),())
theorem ak3:aX Z (ap (codeOf Tryz.f94) 1 60) (bb Tt Tk xg):=c8 _' (by kernel_rfl) aj fun y=>by kernel_rfl
abbrev i94:Shape:=⟨[aq 0],[],35⟩
abbrev Zs:Shape:=⟨[aq 2,aq 3,aC 4],[],35⟩
noncomputable def f94(a:i94.J):Option Zs.J:=
(f150 ((a.1.1,([10]:F),()),())).bind fun b=>
(f151 ((b.1.1,(b.1.2.1.length:Int),()),())).bind fun c=>
(xg ((([]:F),([]:F),false,b.1.2.1,b.1.2.2.1,c.1.1,c.1.2.1,()),())).bind fun d=>
 bif d.1.2.2.2.2.2.1 then
 some ((([]:F),([]:F),false,()),())
else
(bD d.1.2.2.2.1 (0:Int) d.1.2.2.2.2.1).bind fun e=>
(bD d.1.2.2.2.1 d.1.2.2.2.2.1 (d.1.2.2.2.1.length:Int)).bind fun f=>
 some ((e,f,true,()),())
noncomputable def _J:aK:=a6 ak Tryz.f94 i94 Zs [] f94
theorem ar1:aL Z 94 _J:=ba _' Tryz.func94 (by kernel_rfl) (bd ak3 aj) (fun y=>by kernel_rfl) fun a=>by kernel_rfl
theorem aiI(t:F)(b:UInt8):df (t++[b])=ei (df t) b:=by unfold df;rw[List.foldl_append];rfl
theorem aiG:∀{s:F},s.all cU=true->s≠[]->iN s=false->s.length≠1->1<=df s:=by
 intro s Y hn hl h1;have key:∀(s:F) (n:Int),s.all cU=true->1<=n->1<=s.foldl ei n:=by
  intro s;induction s with
  |nil=>intro n _ h;exact h
  |cons b s ih=>
   intro n Y hn;simp only[List.all_cons,Bool.and_eq_true] at Y;have hb:=jr Y.1;refine ih _ Y.2 ?_
   unfold ei;omega
 match s,Y,hn,hl,h1 with
 |[],_,hn,_,_=>exact absurd rfl hn
 |[b],_,_,_,h1=>exact absurd rfl h1
 |b::c::r,Y,_,hl,_=>
  have hl:((b.toNat:Int)==48)=false:=hl;have hb:=Y;rw[List.all_cons,Bool.and_eq_true] at hb;have fw:=jr hb.1;have hne:(b.toNat:Int)≠48:=by simpa using hl
  show 1<=(c::r).foldl ei (ei 0 b);exact key _ _ hb.2 (by unfold ei;omega)
theorem aey:∀(k:Nat) (s:F),s.length=k->s.all cU=true->s≠[]->iN s=false->∃n:Nat,df s=(n:Int)/\Lib.decDigits n=s:=by
 intro k;induction k with
 |zero=>intro s h _ hn _;exact absurd (List.length_eq_zero_iff.1 h) hn
 |succ k ih=>
  intro s h Y hn hl;obtain⟨t,b,rfl⟩:∃t b,s=t++[b]:=⟨s.dropLast,s.getLast hn,(List.dropLast_concat_getLast hn).symm⟩;have hk:t.length=k:=by simpa using h
  rw[List.all_append,Bool.and_eq_true] at Y;have hb1:cU b=true:=by have:=Y.2;simpa using this
  have fw:=jr hb1;cases t with
  |nil=>
   refine⟨b.toNat-48,?_,?_⟩
   ·show ei 0 b=_;unfold ei;omega
   ·rw[Lib.decDigits,dif_pos (by omega)]
    show [_]=[b];congr 1
    apply UInt8.toNat_inj.1;rw[UInt8.toNat_ofNat'];omega
  |cons c r=>
   have hlt:iN (c::r)=false:=by
    cases r with
    |nil=>rfl
    |cons d r=>exact hl
   obtain⟨n,h1,h2⟩:=ih (c::r) hk Y.1 (by simp) hlt
   have hp:1<=n:=by
    cases r with
    |nil=>
     have qX:((c.toNat:Int)==48)=false:=hl;have qX:(c.toNat:Int)≠48:=by simpa using qX
     have hc:=jr (by have:=Y.1;simpa using this:cU c=true)
     have:ei 0 c=(n:Int):=h1;unfold ei at this;omega
    |cons d r=>
     have:=aiG Y.1 (by simp) hlt (by simp)
     omega
   refine⟨n*10+(b.toNat-48),?_,?_⟩
   ·rw[aiI,h1];unfold ei;omega
   ·rw[Lib.decDigits,dif_neg (by omega),show(n*10+(b.toNat-48))/10=n by omega,h2,show(n*10+(b.toNat-48))%10=b.toNat-48 by omega]
    congr 2
    apply UInt8.toNat_inj.1;rw[UInt8.toNat_ofNat'];omega
theorem Qo{m:Int}{s:F}(h:fO m s=true):∃n:Nat,df s=(n:Int)/\s=Lib.itoa (n:Int)/\(n:Int)<=m:=by
 have h0:=h;unfold fO at h;simp only[Bool.and_eq_true,decide_eq_true_eq,Bool.not_eq_true'] at h;obtain⟨⟨⟨⟨h1,h2⟩,h3⟩,_⟩,br⟩:=h;obtain⟨n,e1,e2⟩:=aey s.length s rfl h1 (by simpa using h2) h3
 exact⟨n,e1,by rw[rr,e2],by omega⟩
def mc(s:F):Option (F×F):=match dv 10 s with
 |some (bV,r)=>bif fO (r.length:Int) bV then some (r.take (df bV).toNat,r.drop (df bV).toNat) else none
 |none=>none
theorem Ow(s:F)(hs:am s.length):f94 ((s,()),())=some ((((mc s).getD ([],[])).1,(((mc s).getD ([],[])).2,((mc s).isSome,()))),()):=by
 have c1:=n8 10 s hs;have c1:f150 ((s,(([10]:F),())),())=_:=c1;cases al:dv 10 s with
 |none=>
  have hz:mc s=none:=by unfold mc;rw[al]
  have dJ:ia 10 s=s:=by unfold ia;rw[al]
  have n1:=zM s ((h' 10 s).length:Int) hs;rw[al,dJ] at c1;simp only[f94,c1,Option.bind_some,n1,xg,Option.isSome_none,Bool.not_false,Bool.not_true,cond_false,cond_true,hz];rfl
 |some q=>
  obtain⟨bV,r⟩:=q;have hl:=(jO al).1;have hl:s.length=bV.length+1+r.length:=by rw[hl];simp;omega
  have dJ:ia 10 s=bV:=by unfold ia;rw[al]
  have hB:h' 10 s=r:=by unfold h';rw[al]
  rw[al,dJ,hB] at c1;have n1:=zM bV (r.length:Int) (by unfold am at hs ⊢;omega)
  have hz:mc s=bif fO (r.length:Int) bV then some (r.take (df bV).toNat,r.drop (df bV).toNat) else none:=by unfold mc;rw[al]
  cases hg:fO (r.length:Int) bV with
  |false=>
   rw[hg] at hz n1;simp only[f94,c1,Option.bind_some,n1,xg,Option.isSome_some,Bool.not_false,Bool.not_true,cond_false,cond_true,hz];rfl
  |true=>
   rw[hg] at hz n1;obtain⟨n,h1,_,h3⟩:=Qo hg;rw[h1] at hz n1;have s1:bD r 0 (n:Int)=some (r.take n):=iJ (by omega)
   have s2:bD r (n:Int) ((r.length:Nat):Int)=some (r.drop n):=hI (by omega)
   simp only[f94,c1,Option.bind_some,n1,xg,Option.isSome_some,Bool.not_false,Bool.not_true,cond_false,cond_true,s1,s2,hz];rfl
theorem Po{s x y:F}(h:mc s=some (x,y)):s=fX x++y/\y.length<s.length:=by
 unfold mc at h;cases al:dv 10 s with
 |none=>rw[al] at h;cases h
 |some q=>
  obtain⟨bV,r⟩:=q;rw[al] at h;have hs:=(jO al).1;have h:(bif fO (r.length:Int) bV then some (r.take (df bV).toNat,r.drop (df bV).toNat) else none)=some (x,y):=h
  cases hg:fO (r.length:Int) bV with
  |false=>rw[hg] at h;cases h
  |true=>
   rw[hg] at h;obtain⟨n,h1,h2,h3⟩:=Qo hg;simp only[cond_true,Option.some.injEq,Prod.mk.injEq,h1,Int.toNat_natCast] at h;obtain⟨rfl,rfl⟩:=h;have hlen:(r.take n).length=n:=by simp;omega
   refine⟨?_,?_⟩
   ·unfold fX;rw[hlen,<-h2,hs];simp
   ·rw[hs];simp;omega
theorem afo(x y:F)(hC:x.length<1000000000):mc (fX x++y)=some (x,y):=by
 unfold mc;rw[P5];obtain⟨g1,g2⟩:=G6 (n:=x.length) (m:=((x++y).length:Int)) (by simp;omega) hC
 show(bif fO ((x++y).length:Int) (Lib.itoa (x.length:Int)) then _ else _)=_
 rw[g1,g2];simp
noncomputable abbrev avn:bl:=[(48,_Y),(94,_J),(95,_I)]
theorem Nj:bc Z (bi zn avn):=awg ⟨ar9,ar1,ar0,⟨⟩⟩
abbrev Rp:Shape:=⟨[a8 2 2 0,a' 4 3000256,aq 6,aq 7,aC 8],[(5000128,.deep .pack,.cell 2 0),a7 2 [.own 5000128],(3000256,.deep .pack,.slot 4 0)],48⟩
abbrev Q_:List aR:=[(.norm,⟨[a8 2 2 0,a' 4 3000256,aq 6,aq 7,aC 26],[(5000128,.deep .pack,.cell 2 0),a7 2 [.own 5000128],(3000256,.deep .pack,.slot 4 0)],48⟩)]
noncomputable def rs(y:Rp.J):Option (aF Q_):=
 bif(!(!y.1.2.2.2.2.1)) then
 some (((),(),y.1.2.2.1,y.1.2.2.2.1,((y.2.2.2.1.length:Int)==(5:Int)),()),y.2.1,((),()),y.2.2.2.1,())
else
 some (((),(),y.1.2.2.1,y.1.2.2.2.1,true,()),y.2.1,((),()),y.2.2.2.1,())
theorem ahi:aX Z (ap (di (ap (codeOf Tryz.f50) 1 60)) 120 3860) (bb Rp Q_ rs):=c8 Nj (by kernel_rfl) aj fun y=>by kernel_rfl
abbrev Cq:Shape:=⟨[a8 2 2 0,a' 4 3000256,aq 5],[(5000128,.deep .pack,.cell 2 0),a7 2 [.own 5000128],(3000256,.deep .pack,.slot 4 0)],48⟩
abbrev JA:List aR:=[(.ret,⟨[a8 2 2 0,aC 3],[(5000128,.deep .pack,.cell 2 0),a7 2 [.own 5000128]],48⟩),(.exit 0,⟨[a8 2 2 0,a' 4 3000256],[(5000128,.deep .pack,.cell 2 0),a7 2 [.own 5000128],(3000256,.deep .pack,.slot 4 0)],48⟩)]
noncomputable def qp(y:Cq.J):bR Cq JA:=
 bif(!(y.1.2.2.1==([]:F))) then
(f94 ((y.1.2.2.1,()),())).bind fun a=>
(rs (((),(),a.1.1,a.1.2.1,a.1.2.2.1,()),y.2.1,((),()),y.2.2.2.1,())).bind fun b=>
 bif b.1.2.2.2.2.1 then
 some (.inr (.inl (((),false,()),([]:List aT),((),()),())))
else
(f95 ((b.1.2.2.1,()),())).bind fun c=>
 bif(!c.1.2.1) then
 some (.inr (.inl (((),false,()),([]:List aT),((),()),())))
else
(cw 80 b.2.2.2.1 ([(aT.mk c.2.2.2.1.1 c.2.2.2.1.2.1 c.2.1 c.2.2.1)]:List aT)).bind fun d=>
 some (.inl (((),(),b.1.2.2.2.1,()),b.2.1,((),()),d,()))
else
 some (.inr (.inr (((),(),()),y.2.1,((),()),y.2.2.2.1,())))
noncomputable def w_:Cq.J->Option (aF JA):=bu qp
theorem alh:aX Z (ap (codeOf Tryz.f50) 1 60) (bb Cq JA w_):=bW Nj (by kernel_rfl) (bd ahi aj) fun y=>by kernel_rfl
abbrev i50:Shape:=⟨[aq 0],[],48⟩
abbrev yh:Shape:=⟨[a8 2 2 0,aC 3],[(5000128,.deep .pack,.cell 2 0),a7 2 [.own 5000128]],48⟩
noncomputable def f50(a:i50.J):Option yh.J:=
(w_ (((),(),a.1.1,()),([]:List aT),((),()),([]:List aT),())).bind fun b=>
(match b with
|.inl c=>
 some (((),c.1.2.1,()),c.2.1,((),()),())
|.inr d=>
(f48 (((d.2.2.2.1,()),()),())).bind fun e=>
 bif(!e.1.1) then
 some (((),false,()),([]:List aT),((),()),())
else
 some (((),true,()),d.2.2.2.1,((),()),()))
noncomputable def _W:aK:=a6 zn Tryz.f50 i50 yh [] f50
theorem ar8:aL Z 50 _W:=ba Nj Tryz.func50 (by kernel_rfl) (bd alh aj) (fun y=>by kernel_rfl) fun a=>by kernel_rfl
end Go.Proofs
