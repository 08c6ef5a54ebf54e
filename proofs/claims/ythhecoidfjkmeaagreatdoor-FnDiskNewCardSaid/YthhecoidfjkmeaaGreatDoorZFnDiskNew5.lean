/- FnDiskNew: a stored root is recovered. (part 6 of 7: JkKF137, JkKF190, JkKF138, JkKF191, JkKF139, JkKF82, JkKF44, JkKF15, JkKF84, JkKF46, JkKF17, JkKF85, JkKF48, JkKF20, JkKPuL, JkKF19, JkKF27, JkKF29, JkKPuPe, JkKF11, JkKF13, JkKF45, JkKF16, JkKF47, Jk) Conditions: none beyond the statement. -/
import Derived.Test.YthhecoidfjkmeaaGreatDoorZFnDiskNew4
import Derived.Tactics
import Derived.Deep.RegionLaw
import Derived.Shelf.Abstract
import Derived.Test.YthhecoidfjkmeaaGreatDoorProg
import Derived.KernelRfl
set_option linter.unusedSimpArgs false
set_option maxRecDepth 100000
set_option linter.unusedVariables false
namespace Go.Proofs
open Go.Jk
noncomputable abbrev asZ:a7:=[(189,Yz)]
theorem ZF:aQ O (aY ad asZ):=aV ⟨apZ,⟨⟩⟩
abbrev y3:Shape:=⟨[aK 0 .entry,a_ 3 3000192,ag 4],[a8 3000192 .entry 3 0],23⟩
abbrev Gn:List aO:=[(.exit 0,⟨[a_ 3 3000192],[a8 3000192 .entry 3 0],23⟩)]
noncomputable def alu(y:y3.F):bD y3 Gn:=
 bif(decide (y.1.2.2.1<(y.1.1.length:Int))) then
(aN y.1.1 y.1.2.2.1).bind fun a=>
(f189 (((a.path,a.kind,a.mode,a.text,()),()),())).bind fun b=>
(bk y.2.1.length y.1.2.2.1).bind fun c=>
((y.2.1[c]?).bind fun q=>some (az.mk b.2.1.1 b.2.1.2.1 b.2.1.2.2.1 b.2.1.2.2.2.1)).bind fun d=>
 some (.inl ((y.1.1,(),(IntKind.i64.wrap (y.1.2.2.1+(1:Int))),()),(y.2.1.set c d),()))
else
 some (.inr (((),()),y.2.1,()))
noncomputable def RI:y3.F->Option (aA Gn):=bo alu
theorem akS:aT O (an (codeOf Tryz.f137) 1 58) (aU y3 Gn RI):=bE ZF (by kernel_rfl) af fun y=>by kernel_rfl
abbrev i137:Shape:=⟨[aK 0 .entry],[],23⟩
abbrev WY:Shape:=⟨[a_ 2 3000128],[a8 3000128 .entry 2 0],23⟩
noncomputable def f137(a:i137.F):Option WY.F:=
(jv 48 (a.1.1.length:Int) (a.1.1.length:Int) (az.mk ([]:J) (0:Int) (0:Int) ([]:J))).bind fun b=>
(RI ((a.1.1,(),(0:Int),()),b,())).bind fun c=>
 some (((),()),c.2.1,())
noncomputable def Y5:aB:=aG ad Tryz.f137 i137 WY [] f137
theorem aqj:ay O 137 Y5:=aJ ZF Tryz.func137 (by kernel_rfl) (a6 akS af) (fun y=>by kernel_rfl) fun a=>by kernel_rfl
abbrev i190:Shape:=⟨[b5 0 [ah,aX,ah],b5 1 [ah,aX,ah]],[],20⟩
abbrev Wj:Shape:=⟨[ap 4],[],20⟩
noncomputable def f190(a:i190.F):Option Wj.F:=
 bif(!(a.1.1.1==a.1.2.1.1)) then
 some ((false,()),())
else
 bif(a.1.1.2.1 !=a.1.2.1.2.1) then
 some ((false,()),())
else
 bif(!(a.1.1.2.2.1==a.1.2.1.2.2.1)) then
 some ((false,()),())
else
 some ((true,()),())
noncomputable def Yy:aB:=aG ad Tryz.f190 i190 Wj [] f190
theorem apY:ay O 190 Yy:=aJ g0 Tryz.func190 (by kernel_rfl) af (fun y=>by kernel_rfl) fun a=>by kernel_rfl
noncomputable abbrev asY:a7:=[(190,Yy)]
theorem ZE:aQ O (aY ad asY):=aV ⟨apY,⟨⟩⟩
abbrev y2:Shape:=⟨[aK 0 .need,aK 1 .need,ag 5],[],27⟩
abbrev Gm:List aO:=[(.ret,⟨[ap 4],[],27⟩),(.exit 0,⟨[],[],27⟩)]
noncomputable def alt(y:y2.F):bD y2 Gm:=
 bif(decide (y.1.2.2.1<(y.1.1.length:Int))) then
(aN y.1.1 y.1.2.2.1).bind fun a=>
(aN y.1.2.1 y.1.2.2.1).bind fun b=>
(f190 (((a.name,a.kind,a.bf,()),(b.name,b.kind,b.bf,()),()),())).bind fun c=>
 bif(!c.1.1) then
 some (.inr (.inl ((false,()),())))
else
 some (.inl ((y.1.1,y.1.2.1,(IntKind.i64.wrap (y.1.2.2.1+(1:Int))),()),()))
else
 some (.inr (.inr ((),())))
noncomputable def RH:y2.F->Option (aA Gm):=bo alt
theorem akR:aT O (an (codeOf Tryz.f138) 1 58) (aU y2 Gm RH):=bE ZE (by kernel_rfl) af fun y=>by kernel_rfl
abbrev i138:Shape:=⟨[aK 0 .need,aK 1 .need],[],27⟩
abbrev WX:Shape:=⟨[ap 4],[],27⟩
noncomputable def f138(a:i138.F):Option WX.F:=
 bif((a.1.1.length:Int) !=(a.1.2.1.length:Int)) then
 some ((false,()),())
else
(RH ((a.1.1,a.1.2.1,(0:Int),()),())).bind fun b=>
(match b with
|.inl c=>
 some ((c.1.1,()),())
|.inr d=>
 some ((true,()),()))
noncomputable def Y4:aB:=aG ad Tryz.f138 i138 WX [] f138
theorem z138:ay O 138 Y4:=aJ ZE Tryz.func138 (by kernel_rfl) (a6 akR af) (fun y=>by kernel_rfl) fun a=>by kernel_rfl
abbrev i191:Shape:=⟨[b5 0 [ah,aX,aX,ah],b5 1 [ah,aX,aX,ah]],[],25⟩
abbrev Wi:Shape:=⟨[ap 4],[],25⟩
noncomputable def f191(a:i191.F):Option Wi.F:=
 bif(!(a.1.1.1==a.1.2.1.1)) then
 some ((false,()),())
else
 bif(a.1.1.2.1 !=a.1.2.1.2.1) then
 some ((false,()),())
else
 bif(a.1.1.2.2.1 !=a.1.2.1.2.2.1) then
 some ((false,()),())
else
 bif(!(a.1.1.2.2.2.1==a.1.2.1.2.2.2.1)) then
 some ((false,()),())
else
 some ((true,()),())
noncomputable def Yx:aB:=aG ad Tryz.f191 i191 Wi [] f191
theorem apX:ay O 191 Yx:=aJ g0 Tryz.func191 (by kernel_rfl) af (fun y=>by kernel_rfl) fun a=>by kernel_rfl
noncomputable abbrev asX:a7:=[(191,Yx)]
theorem ZD:aQ O (aY ad asX):=aV ⟨apX,⟨⟩⟩
abbrev y1:Shape:=⟨[aK 0 .entry,aK 1 .entry,ag 5],[],27⟩
abbrev Gl:List aO:=[(.ret,⟨[ap 4],[],27⟩),(.exit 0,⟨[],[],27⟩)]
noncomputable def als(y:y1.F):bD y1 Gl:=
 bif(decide (y.1.2.2.1<(y.1.1.length:Int))) then
(aN y.1.1 y.1.2.2.1).bind fun a=>
(aN y.1.2.1 y.1.2.2.1).bind fun b=>
(f191 (((a.path,a.kind,a.mode,a.text,()),(b.path,b.kind,b.mode,b.text,()),()),())).bind fun c=>
 bif(!c.1.1) then
 some (.inr (.inl ((false,()),())))
else
 some (.inl ((y.1.1,y.1.2.1,(IntKind.i64.wrap (y.1.2.2.1+(1:Int))),()),()))
else
 some (.inr (.inr ((),())))
noncomputable def RG:y1.F->Option (aA Gl):=bo als
theorem akQ:aT O (an (codeOf Tryz.f139) 1 58) (aU y1 Gl RG):=bE ZD (by kernel_rfl) af fun y=>by kernel_rfl
abbrev i139:Shape:=⟨[aK 0 .entry,aK 1 .entry],[],27⟩
abbrev WW:Shape:=⟨[ap 4],[],27⟩
noncomputable def f139(a:i139.F):Option WW.F:=
 bif((a.1.1.length:Int) !=(a.1.2.1.length:Int)) then
 some ((false,()),())
else
(RG ((a.1.1,a.1.2.1,(0:Int),()),())).bind fun b=>
(match b with
|.inl c=>
 some ((c.1.1,()),())
|.inr d=>
 some ((true,()),()))
noncomputable def Y3:aB:=aG ad Tryz.f139 i139 WW [] f139
theorem z139:ay O 139 Y3:=aJ ZD Tryz.func139 (by kernel_rfl) (a6 akQ af) (fun y=>by kernel_rfl) fun a=>by kernel_rfl
noncomputable abbrev axu:a7:=[(134,Y8),(135,Y7)]
theorem ax9:aQ O (aY ad axu):=aV ⟨aqm,aql,⟨⟩⟩
abbrev i82:Shape:=⟨[b5 0 [ah,ah,bl .need,bl .entry],ag 1],[],32⟩
abbrev _g:Shape:=⟨[ag 4],[],32⟩
noncomputable def f82(a:i82.F):Option _g.F:=
 bif(decide ((IntKind.i64.wrap (a.1.2.1-(a.1.1.1.length:Int)))<(0:Int))) then
 some ((((-1):Int),()),())
else
 bif(decide ((IntKind.i64.wrap ((IntKind.i64.wrap (a.1.2.1-(a.1.1.1.length:Int)))-(a.1.1.2.1.length:Int)))<(0:Int))) then
 some ((((-1):Int),()),())
else
(f134 ((a.1.1.2.2.1,(IntKind.i64.wrap ((IntKind.i64.wrap (a.1.2.1-(a.1.1.1.length:Int)))-(a.1.1.2.1.length:Int))),()),())).bind fun b=>
 bif(decide (b.1.1<(0:Int))) then
 some ((((-1):Int),()),())
else
(f135 ((a.1.1.2.2.2.1,b.1.1,()),())).bind fun c=>
 bif(decide (c.1.1<(0:Int))) then
 some ((((-1):Int),()),())
else
 some ((c.1.1,()),())
noncomputable def aaM:aB:=aG ad Tryz.f82 i82 _g [] f82
theorem aua:ay O 82 aaM:=aJ ax9 Tryz.func82 (by kernel_rfl) af (fun y=>by kernel_rfl) fun a=>by kernel_rfl
noncomputable abbrev axK:a7:=[(82,aaM)]
theorem abq:aQ O (aY ad axK):=aV ⟨aua,⟨⟩⟩
abbrev yw:Shape:=⟨[aK 0 .pack,ag 1,ag 5],[],27⟩
abbrev FU:List aO:=[(.ret,⟨[ag 4],[],27⟩),(.exit 0,⟨[ag 1],[],27⟩)]
noncomputable def alo(y:yw.F):bD yw FU:=
 bif(decide (y.1.2.2.1<(y.1.1.length:Int))) then
(aN y.1.1 y.1.2.2.1).bind fun a=>
(f82 (((a.name,a.bf,a.bj,a.bH,()),y.1.2.1,()),())).bind fun b=>
 bif(decide (b.1.1<(0:Int))) then
 some (.inr (.inl ((((-1):Int),()),())))
else
 some (.inl ((y.1.1,b.1.1,(IntKind.i64.wrap (y.1.2.2.1+(1:Int))),()),()))
else
 some (.inr (.inr ((y.1.2.1,()),())))
noncomputable def Ry:yw.F->Option (aA FU):=bo alo
theorem aj8:aT O (an (codeOf Tryz.f44) 1 122) (aU yw FU Ry):=bE abq (by kernel_rfl) af fun y=>by kernel_rfl
abbrev i44:Shape:=⟨[aK 0 .pack,ag 1],[],27⟩
abbrev _A:Shape:=⟨[ag 4],[],27⟩
noncomputable def f44(a:i44.F):Option _A.F:=
 bif(decide ((IntKind.i64.wrap (a.1.2.1-(a.1.1.length:Int)))<(0:Int))) then
 some ((((-1):Int),()),())
else
(Ry ((a.1.1,(IntKind.i64.wrap (a.1.2.1-(a.1.1.length:Int))),(0:Int),()),())).bind fun b=>
(match b with
|.inl c=>
 some ((c.1.1,()),())
|.inr d=>
 some ((d.1.1,()),()))
noncomputable def aaZ:aB:=aG ad Tryz.f44 i44 _A [] f44
theorem aul:ay O 44 aaZ:=aJ abq Tryz.func44 (by kernel_rfl) (a6 aj8 af) (fun y=>by kernel_rfl) fun a=>by kernel_rfl
noncomputable abbrev ax1:a7:=[(44,aaZ)]
theorem ayn:aQ O (aY ad ax1):=aV ⟨aul,⟨⟩⟩
abbrev i15:Shape:=⟨[b5 0 [bl .pack],ag 1],[],12⟩
abbrev _R:Shape:=⟨[ag 4],[],12⟩
noncomputable def f15(a:i15.F):Option _R.F:=
(f44 ((a.1.1.1,a.1.2.1,()),())).bind fun b=>
 bif(decide (b.1.1<(0:Int))) then
 some ((((-1):Int),()),())
else
 some ((b.1.1,()),())
noncomputable def wm:aB:=aG ad Tryz.f15 i15 _R [] f15
theorem auu:ay O 15 wm:=aJ ayn Tryz.func15 (by kernel_rfl) af (fun y=>by kernel_rfl) fun a=>by kernel_rfl
noncomputable abbrev axs:a7:=[(136,Y6),(137,Y5)]
theorem ax7:aQ O (aY ad axs):=aV ⟨aqk,aqj,⟨⟩⟩
abbrev i84:Shape:=⟨[b5 0 [ah,ah,bl .need,bl .entry]],[],19⟩
abbrev _f:Shape:=⟨[au 2 2 0],[bm 5000130 .need 2 2,bm 5000131 .entry 2 3,ar 2 [ah,ah,.own 5000130,.own 5000131]],19⟩
noncomputable def f84(a:i84.F):Option _f.F:=
(f136 ((a.1.1.2.2.1,()),())).bind fun b=>
(f137 ((a.1.1.2.2.2.1,()),())).bind fun c=>
 some (((),()),b.2.1,c.2.1,(a.1.1.1,a.1.1.2.1,(),(),()),())
noncomputable def aaL:aB:=aG ad Tryz.f84 i84 _f [] f84
theorem at7:ay O 84 aaL:=aJ ax7 Tryz.func84 (by kernel_rfl) af (fun y=>by kernel_rfl) fun a=>by kernel_rfl
noncomputable abbrev axI:a7:=[(84,aaL)]
theorem abp:aQ O (aY ad axI):=aV ⟨at7,⟨⟩⟩
abbrev Aj:Shape:=⟨[aK 0 .pack,a_ 3 3000192,ag 4],[a8 3000192 .pack 3 0],23⟩
abbrev HQ:List aO:=[(.exit 0,⟨[a_ 3 3000192],[a8 3000192 .pack 3 0],23⟩)]
noncomputable def am7(y:Aj.F):bD Aj HQ:=
 bif(decide (y.1.2.2.1<(y.1.1.length:Int))) then
(aN y.1.1 y.1.2.2.1).bind fun a=>
(f84 (((a.name,a.bf,a.bj,a.bH,()),()),())).bind fun b=>
(bk y.2.1.length y.1.2.2.1).bind fun c=>
((y.2.1[c]?).bind fun q=>some (aS.mk b.2.2.2.1.1 b.2.2.2.1.2.1 b.2.1 b.2.2.1)).bind fun d=>
 some (.inl ((y.1.1,(),(IntKind.i64.wrap (y.1.2.2.1+(1:Int))),()),(y.2.1.set c d),()))
else
 some (.inr (((),()),y.2.1,()))
noncomputable def Ti:Aj.F->Option (aA HQ):=bo am7
theorem amJ:aT O (an (codeOf Tryz.f46) 1 58) (aU Aj HQ Ti):=bE abp (by kernel_rfl) af fun y=>by kernel_rfl
abbrev i46:Shape:=⟨[aK 0 .pack],[],23⟩
abbrev _y:Shape:=⟨[a_ 2 3000128],[a8 3000128 .pack 2 0],23⟩
noncomputable def f46(a:i46.F):Option _y.F:=
(jv 80 (a.1.1.length:Int) (a.1.1.length:Int) (aS.mk ([]:J) ([]:J) ([]:List bQ) ([]:List az))).bind fun b=>
(Ti ((a.1.1,(),(0:Int),()),b,())).bind fun c=>
 some (((),()),c.2.1,())
noncomputable def aaX:aB:=aG ad Tryz.f46 i46 _y [] f46
theorem z46:ay O 46 aaX:=aJ abp Tryz.func46 (by kernel_rfl) (a6 amJ af) (fun y=>by kernel_rfl) fun a=>by kernel_rfl
noncomputable abbrev axZ:a7:=[(46,aaX)]
theorem aym:aQ O (aY ad axZ):=aV ⟨z46,⟨⟩⟩
abbrev i17:Shape:=⟨[b5 0 [bl .pack]],[],9⟩
abbrev _P:Shape:=⟨[au 2 2 0],[bm 5000128 .pack 2 0,ar 2 [.own 5000128]],9⟩
noncomputable def f17(a:i17.F):Option _P.F:=
(f46 ((a.1.1.1,()),())).bind fun b=>
 some (((),()),b.2.1,((),()),())
noncomputable def aba:aB:=aG ad Tryz.f17 i17 _P [] f17
theorem aus:ay O 17 aba:=aJ aym Tryz.func17 (by kernel_rfl) af (fun y=>by kernel_rfl) fun a=>by kernel_rfl
noncomputable abbrev axr:a7:=[(138,Y4),(139,Y3)]
theorem ax6:aQ O (aY ad axr):=aV ⟨z138,z139,⟨⟩⟩
abbrev i85:Shape:=⟨[b5 0 [ah,ah,bl .need,bl .entry],b5 1 [ah,ah,bl .need,bl .entry]],[],27⟩
abbrev _e:Shape:=⟨[ap 4],[],27⟩
noncomputable def f85(a:i85.F):Option _e.F:=
 bif(!(a.1.1.1==a.1.2.1.1)) then
 some ((false,()),())
else
 bif(!(a.1.1.2.1==a.1.2.1.2.1)) then
 some ((false,()),())
else
(f138 ((a.1.1.2.2.1,a.1.2.1.2.2.1,()),())).bind fun b=>
 bif(!b.1.1) then
 some ((false,()),())
else
(f139 ((a.1.1.2.2.2.1,a.1.2.1.2.2.2.1,()),())).bind fun c=>
 bif(!c.1.1) then
 some ((false,()),())
else
 some ((true,()),())
noncomputable def aaK:aB:=aG ad Tryz.f85 i85 _e [] f85
theorem z85:ay O 85 aaK:=aJ ax6 Tryz.func85 (by kernel_rfl) af (fun y=>by kernel_rfl) fun a=>by kernel_rfl
noncomputable abbrev axG:a7:=[(85,aaK)]
theorem abo:aQ O (aY ad axG):=aV ⟨z85,⟨⟩⟩
abbrev Ai:Shape:=⟨[aK 0 .pack,aK 1 .pack,ag 5],[],27⟩
abbrev HP:List aO:=[(.ret,⟨[ap 4],[],27⟩),(.exit 0,⟨[],[],27⟩)]
noncomputable def am6(y:Ai.F):bD Ai HP:=
 bif(decide (y.1.2.2.1<(y.1.1.length:Int))) then
(aN y.1.1 y.1.2.2.1).bind fun a=>
(aN y.1.2.1 y.1.2.2.1).bind fun b=>
(f85 (((a.name,a.bf,a.bj,a.bH,()),(b.name,b.bf,b.bj,b.bH,()),()),())).bind fun c=>
 bif(!c.1.1) then
 some (.inr (.inl ((false,()),())))
else
 some (.inl ((y.1.1,y.1.2.1,(IntKind.i64.wrap (y.1.2.2.1+(1:Int))),()),()))
else
 some (.inr (.inr ((),())))
noncomputable def Th:Ai.F->Option (aA HP):=bo am6
theorem amI:aT O (an (codeOf Tryz.f48) 1 58) (aU Ai HP Th):=bE abo (by kernel_rfl) af fun y=>by kernel_rfl
abbrev i48:Shape:=⟨[aK 0 .pack,aK 1 .pack],[],27⟩
abbrev _w:Shape:=⟨[ap 4],[],27⟩
noncomputable def f48(a:i48.F):Option _w.F:=
 bif((a.1.1.length:Int) !=(a.1.2.1.length:Int)) then
 some ((false,()),())
else
(Th ((a.1.1,a.1.2.1,(0:Int),()),())).bind fun b=>
(match b with
|.inl c=>
 some ((c.1.1,()),())
|.inr d=>
 some ((true,()),()))
noncomputable def aaV:aB:=aG ad Tryz.f48 i48 _w [] f48
theorem aui:ay O 48 aaV:=aJ abo Tryz.func48 (by kernel_rfl) (a6 amI af) (fun y=>by kernel_rfl) fun a=>by kernel_rfl
noncomputable abbrev axX:a7:=[(48,aaV)]
theorem ayl:aQ O (aY ad axX):=aV ⟨aui,⟨⟩⟩
abbrev i20:Shape:=⟨[b5 0 [bl .pack],b5 1 [bl .pack]],[],11⟩
abbrev _M:Shape:=⟨[ap 4],[],11⟩
noncomputable def f20(a:i20.F):Option _M.F:=
(f48 ((a.1.1.1,a.1.2.1.1,()),())).bind fun b=>
 bif(!b.1.1) then
 some ((false,()),())
else
 some ((true,()),())
noncomputable def aa7:aB:=aG ad Tryz.f20 i20 _M [] f20
theorem z20:ay O 20 aa7:=aJ ayl Tryz.func20 (by kernel_rfl) af (fun y=>by kernel_rfl) fun a=>by kernel_rfl
abbrev jD(n:Nat):Prop:=n<=1048576
abbrev axc(n:bQ):Prop:=jD n.name.length/\jD n.bf.length
abbrev axd(e:az):Prop:=jD e.path.length/\jD e.text.length
abbrev arR(l:List bQ):Prop:=jD l.length/\∀n,n∈l->axc n
abbrev arS(l:List az):Prop:=jD l.length/\∀n,n∈l->axd n
abbrev axb(p:aS):Prop:=jD p.name.length/\jD p.bf.length/\arR p.bj/\arS p.bH
abbrev XT(l:List aS):Prop:=jD l.length/\∀n,n∈l->axb n
theorem XT.C9{ps:List aS}(h:XT ps):fj ps/\j7 ps:=by
 obtain⟨h1,h2⟩:=h;have up:∀{n:Nat},jD n->b9 n:=fun h=>Nat.le_trans h (by decide)
 have Z4:∀{n:Nat},jD n->n<=2097151:=fun h=>Nat.le_trans h (by decide)
 refine⟨⟨up h1,fun p hp=>?_⟩,fun p hp=>?_⟩
 ·obtain⟨a,b,c,d⟩:=h2 p hp;exact⟨up a,up b,⟨up c.1,fun n hn=>⟨up (c.2 n hn).1,up (c.2 n hn).2⟩⟩,up d.1,fun n hn=>⟨up (d.2 n hn).1,up (d.2 n hn).2⟩⟩
 ·obtain⟨a,b,c,d⟩:=h2 p hp;exact⟨Z4 b,fun n hn=>Z4 (c.2 n hn).2⟩
abbrev i19:Shape:=⟨[b5 0 [ah,ah],b5 1 [ah,ah]],[],15⟩
abbrev _N:Shape:=⟨[ap 4],[],15⟩
noncomputable def f19(a:i19.F):Option _N.F:=
 bif(!(a.1.1.1==a.1.2.1.1)) then
 some ((false,()),())
else
 bif(!(a.1.1.2.1==a.1.2.1.2.1)) then
 some ((false,()),())
else
 some ((true,()),())
noncomputable def aa8:aB:=aG ad Tryz.f19 i19 _N [] f19
theorem auq:ay O 19 aa8:=aJ g0 Tryz.func19 (by kernel_rfl) af (fun y=>by kernel_rfl) fun a=>by kernel_rfl
noncomputable abbrev axV:a7:=[(34,Ly)]
theorem ayj:aQ O (aY ad axV):=aV ⟨ZY,⟨⟩⟩
abbrev i27:Shape:=⟨[b5 0 [bl .pack]],[],6⟩
abbrev _K:Shape:=⟨[au 2 2 0],[ar 2 [ah,ah]],6⟩
noncomputable def f27(a:i27.F):Option _K.F:=
(f34 (((a.1.1.1,()),()),())).bind fun b=>
 some (((),()),(b.1.1,([]:J),()),())
noncomputable def Lz:aB:=aG ad Tryz.f27 i27 _K [] f27
theorem ZZ:ay O 27 Lz:=aJ ayj Tryz.func27 (by kernel_rfl) af (fun y=>by kernel_rfl) fun a=>by kernel_rfl
noncomputable abbrev axU:a7:=[(37,aa1)]
theorem ayi:aQ O (aY ad axU):=aV ⟨z37,⟨⟩⟩
abbrev i29:Shape:=⟨[b5 0 [bl .pack]],[],6⟩
abbrev _I:Shape:=⟨[au 2 2 0],[ar 2 [ah,ah]],6⟩
noncomputable def f29(a:i29.F):Option _I.F:=
(f37 (((a.1.1.1,()),()),())).bind fun b=>
 some (((),()),(b.1.1,([]:J),()),())
noncomputable def aa4:aB:=aG ad Tryz.f29 i29 _I [] f29
theorem auo:ay O 29 aa4:=aJ ayi Tryz.func29 (by kernel_rfl) af (fun y=>by kernel_rfl) fun a=>by kernel_rfl
theorem afP(ps:List aS)(hb:fj ps)(hv:j7 ps):f29 (((ps,()),()),())=some (((),()),(((bif fP ps then dZ ps else []),(([]:J),())),())):=by
 simp only[f29,afN ps hb hv,Option.bind_some]
theorem Nw(ps:List aS)(hb:fj ps)(hv:j7 ps):f27 (((ps,()),()),())=some (((),()),(((bif fP ps then dZ ps else []),(([]:J),())),())):=by
 simp only[f27,aet ps hb hv,Option.bind_some]
abbrev i11:Shape:=⟨[b5 0 [ah,ah],ag 1],[],20⟩
abbrev Cl:Shape:=⟨[ag 4],[],20⟩
noncomputable def f11(a:i11.F):Option Cl.F:=
 bif(decide ((IntKind.i64.wrap (a.1.2.1-(a.1.1.1.length:Int)))<(0:Int))) then
 some ((((-1):Int),()),())
else
 bif(decide ((IntKind.i64.wrap ((IntKind.i64.wrap (a.1.2.1-(a.1.1.1.length:Int)))-(a.1.1.2.1.length:Int)))<(0:Int))) then
 some ((((-1):Int),()),())
else
 some (((IntKind.i64.wrap ((IntKind.i64.wrap (a.1.2.1-(a.1.1.1.length:Int)))-(a.1.1.2.1.length:Int))),()),())
noncomputable def ts:aB:=aG ad Tryz.f11 i11 Cl [] f11
theorem Z1:ay O 11 ts:=aJ g0 Tryz.func11 (by kernel_rfl) af (fun y=>by kernel_rfl) fun a=>by kernel_rfl
abbrev i13:Shape:=⟨[b5 0 [ah,ah]],[],11⟩
abbrev _S:Shape:=⟨[au 2 2 0],[ar 2 [ah,ah]],11⟩
noncomputable def f13(a:i13.F):Option _S.F:=
 some (((),()),(a.1.1.1,a.1.1.2.1,()),())
noncomputable def wo:aB:=aG ad Tryz.f13 i13 _S [] f13
theorem Z0:ay O 13 wo:=aJ g0 Tryz.func13 (by kernel_rfl) af (fun y=>by kernel_rfl) fun a=>by kernel_rfl
noncomputable abbrev axJ:a7:=[(70,CO),(83,wk)]
theorem ayc:aQ O (aY ad axJ):=aV ⟨z70,B',⟨⟩⟩
abbrev i45:Shape:=⟨[b5 0 [bl .pack]],[],13⟩
abbrev _z:Shape:=⟨[ak 2],[],13⟩
noncomputable def f45(a:i45.F):Option _z.F:=
(f70 (((a.1.1.1,()),()),())).bind fun b=>
(f83 (((b.1.1.length:Int),()),())).bind fun c=>
(bX c.1.1 ([10]:J)).bind fun d=>
(bX d b.1.1).bind fun e=>
(bX e ([101,110,100,10]:J)).bind fun f=>
 some ((f,()),())
noncomputable def aaY:aB:=aG ad Tryz.f45 i45 _z [] f45
theorem auk:ay O 45 aaY:=aJ ayc Tryz.func45 (by kernel_rfl) af (fun y=>by kernel_rfl) fun a=>by kernel_rfl
noncomputable abbrev ax0:a7:=[(12,wq),(30,wl),(45,aaY)]
theorem CV:aQ O (aY ad ax0):=aV ⟨z12,Ca,auk,⟨⟩⟩
abbrev SM:Shape:=⟨[ag 2,au 3 3 0,au 4 4 0,au 6 6 0],[ar 3 [ah,ah],ar 4 [bl .pack],ar 6 [ah,ah]],33⟩
abbrev SA:List aO:=[(.norm,⟨[ag 2,au 3 3 0,au 4 4 0,au 6 6 0,ap 15],[ar 3 [ah,ah],ar 4 [bl .pack],ar 6 [ah,ah]],33⟩)]
noncomputable def TS(y:SM.F):Option (aA SA):=
(f12 (((y.2.1.1,y.2.1.2.1,()),()),())).bind fun a=>
 bif(!(!a.1.1)) then
(f30 (((y.2.2.1.1,()),()),())).bind fun b=>
 some ((y.1.1,(),(),(),(!b.1.1),()),(y.2.1.1,y.2.1.2.1,()),(y.2.2.1.1,()),(y.2.2.2.1.1,y.2.2.2.1.2.1,()),())
else
 some ((y.1.1,(),(),(),true,()),(y.2.1.1,y.2.1.2.1,()),(y.2.2.1.1,()),(y.2.2.2.1.1,y.2.2.2.1.2.1,()),())
theorem amQ:aT O (an (codeOf Tryz.f16) 1 12) (aU SM SA TS):=b8 CV (by kernel_rfl) af fun y=>by kernel_rfl
abbrev SL:Shape:=⟨[ag 2,au 3 3 0,au 6 6 0,ak 7],[ar 3 [ah,ah],ar 6 [ah,ah]],33⟩
abbrev Sz:List aO:=[(.norm,⟨[ag 2,au 3 3 0,au 6 6 0,ak 7],[ar 3 [ah,ah],ar 6 [ah,ah]],33⟩)]
noncomputable def TR(y:SL.F):Option (aA Sz):=
 bif(decide (y.1.1<(0:Int))) then
 some (((0:Int),(),(),y.1.2.2.2.1,()),(y.2.1.1,y.2.1.2.1,()),(y.2.2.1.1,y.2.2.1.2.1,()),())
else
 some ((y.1.1,(),(),y.1.2.2.2.1,()),(y.2.1.1,y.2.1.2.1,()),(y.2.2.1.1,y.2.2.1.2.1,()),())
theorem amP:aT O (an (codeOf Tryz.f16) 1 30) (aU SL Sz TR):=b8 CV (by kernel_rfl) af fun y=>by kernel_rfl
abbrev SK:Shape:=⟨[ag 2,au 3 3 0,au 6 6 0,ak 7],[ar 3 [ah,ah],ar 6 [ah,ah]],33⟩
abbrev Sy:List aO:=[(.norm,⟨[ag 2,au 3 3 0,au 6 6 0,ak 7],[ar 3 [ah,ah],ar 6 [ah,ah]],33⟩)]
noncomputable def TQ(y:SK.F):Option (aA Sy):=
 bif(decide (y.1.1>(y.1.2.2.2.1.length:Int))) then
 some (((y.1.2.2.2.1.length:Int),(),(),y.1.2.2.2.1,()),(y.2.1.1,y.2.1.2.1,()),(y.2.2.1.1,y.2.2.1.2.1,()),())
else
 some ((y.1.1,(),(),y.1.2.2.2.1,()),(y.2.1.1,y.2.1.2.1,()),(y.2.2.1.1,y.2.2.1.2.1,()),())
theorem amO:aT O (an (codeOf Tryz.f16) 1 62) (aU SK Sy TQ):=b8 CV (by kernel_rfl) af fun y=>by kernel_rfl
abbrev i16:Shape:=⟨[b5 0 [ah,ah],b5 1 [bl .pack],ag 2],[],33⟩
abbrev _Q:Shape:=⟨[au 6 6 0],[ar 6 [ah,ah]],33⟩
noncomputable def f16(a:i16.F):Option _Q.F:=
(TS ((a.1.2.2.1,(),(),(),()),(a.1.1.1,a.1.1.2.1,()),(a.1.2.1.1,()),(([]:J),([]:J),()),())).bind fun b=>
 bif b.1.2.2.2.2.1 then
 some (((),()),(([]:J),([]:J),()),())
else
(f45 (((b.2.2.1.1,()),()),())).bind fun c=>
(TR ((b.1.1,(),(),c.1.1,()),(b.2.1.1,b.2.1.2.1,()),(b.2.2.2.1.1,b.2.2.2.1.2.1,()),())).bind fun d=>
(TQ ((d.1.1,(),(),d.1.2.2.2.1,()),(d.2.1.1,d.2.1.2.1,()),(d.2.2.1.1,d.2.2.1.2.1,()),())).bind fun e=>
(bu e.1.2.2.2.1 (0:Int) e.1.1).bind fun f=>
 some (((),()),(e.2.1.1,f,()),())
noncomputable def abb:aB:=aG ad Tryz.f16 i16 _Q [] f16
theorem aut:ay O 16 abb:=aJ CV Tryz.func16 (by kernel_rfl) (a6 amQ (a6 amP (a6 amO af))) (fun y=>by kernel_rfl) fun a=>by kernel_rfl
noncomputable abbrev axH:a7:=[(64,BT)]
theorem ayb:aQ O (aY ad axH):=aV ⟨IR,⟨⟩⟩
abbrev i47:Shape:=⟨[ak 0],[],10⟩
abbrev _x:Shape:=⟨[ak 2],[],10⟩
noncomputable def f47(a:i47.F):Option _x.F:=
(if-9223372036854775808<=(a.1.1.length:Int)/\(a.1.1.length:Int)<=9223372036854775807 then some () else none).bind fun b=>
(bX (Lib.itoa (a.1.1.length:Int)) ([10]:J)).bind fun c=>
(bX c a.1.1).bind fun d=>
(bX d ([101,110,100,10]:J)).bind fun e=>
 some ((e,()),())
noncomputable def aaW:aB:=aG ad Tryz.f47 i47 _x [] f47
theorem auj:ay O 47 aaW:=aJ ayb Tryz.func47 (by kernel_rfl) af (fun y=>by kernel_rfl) fun a=>by kernel_rfl
noncomputable abbrev axY:a7:=[(14,tr),(34,Ly),(43,CR),(47,aaW)]
theorem abu:aQ O (aY ad axY):=aV ⟨Kh,ZY,Kg,auj,⟨⟩⟩
abbrev SJ:Shape:=⟨[ag 2,au 3 3 0,au 4 4 0,au 6 6 0],[ar 3 [ah,ah],ar 4 [bl .pack],ar 6 [ah,ah]],30⟩
abbrev Sx:List aO:=[(.norm,⟨[ag 2,au 3 3 0,au 4 4 0,au 6 6 0,ap 15],[ar 3 [ah,ah],ar 4 [bl .pack],ar 6 [ah,ah]],30⟩)]
noncomputable def TP(y:SJ.F):Option (aA Sx):=
(f14 (((y.2.1.1,y.2.1.2.1,()),()),())).bind fun a=>
 bif(!(!a.1.1)) then
(f43 (((y.2.2.1.1,()),()),())).bind fun b=>
 some ((y.1.1,(),(),(),(!b.1.1),()),(y.2.1.1,y.2.1.2.1,()),(y.2.2.1.1,()),(y.2.2.2.1.1,y.2.2.2.1.2.1,()),())
else
 some ((y.1.1,(),(),(),true,()),(y.2.1.1,y.2.1.2.1,()),(y.2.2.1.1,()),(y.2.2.2.1.1,y.2.2.2.1.2.1,()),())
theorem amN:aT O (an (codeOf Tryz.f18) 1 12) (aU SJ Sx TP):=b8 abu (by kernel_rfl) af fun y=>by kernel_rfl
abbrev i18:Shape:=⟨[b5 0 [ah,ah],b5 1 [bl .pack],ag 2],[],30⟩
abbrev _O:Shape:=⟨[au 6 6 0],[ar 6 [ah,ah]],30⟩
noncomputable def f18(a:i18.F):Option _O.F:=
(TP ((a.1.2.2.1,(),(),(),()),(a.1.1.1,a.1.1.2.1,()),(a.1.2.1.1,()),(([]:J),([]:J),()),())).bind fun b=>
 bif b.1.2.2.2.2.1 then
 some (((),()),(([]:J),([]:J),()),())
else
(f34 (((b.2.2.1.1,()),()),())).bind fun c=>
(f47 ((c.1.1,()),())).bind fun d=>
(bu d.1.1 (0:Int) (ld (gp b.1.1 (0:Int)) (d.1.1.length:Int))).bind fun e=>
 some (((),()),(b.2.1.1,e,()),())
noncomputable def aa9:aB:=aG ad Tryz.f18 i18 _O [] f18
theorem aur:ay O 18 aa9:=aJ abu Tryz.func18 (by kernel_rfl) (a6 amN af) (fun y=>by kernel_rfl) fun a=>by kernel_rfl
noncomputable abbrev Mh:a7:=[(11,ts),(12,wq),(13,wo),(14,tr)]
theorem Ml:aQ O (aY ad Mh):=aV ⟨Z1,z12,Z0,Kh,⟨⟩⟩
abbrev i3:Shape:=⟨[b5 0 [ah,ah]],[],20⟩
abbrev o3:Shape:=⟨[ap 2],[],20⟩
noncomputable def f3(a:i3.F):Option o3.F:=
(f11 (((a.1.1.1,a.1.1.2.1,()),(1048576:Int),()),())).bind fun b=>
 bif(decide (b.1.1<(0:Int))) then
 some ((true,()),())
else
(f13 (((a.1.1.1,a.1.1.2.1,()),()),())).bind fun c=>
(f12 (((c.2.1.1,c.2.1.2.1,()),()),())).bind fun d=>
(f13 (((a.1.1.1,a.1.1.2.1,()),()),())).bind fun e=>
(f14 (((e.2.1.1,e.2.1.2.1,()),()),())).bind fun f=>
 bif(!(f.1.1==d.1.1)) then
 some ((false,()),())
else
 some ((true,()),())
noncomputable def iF:aB:=aG ad Tryz.f3 i3 o3 [] f3
theorem z3:ay O 3 iF:=aJ Ml Tryz.func3 (by kernel_rfl) af (fun y=>by kernel_rfl) fun a=>by kernel_rfl
noncomputable abbrev Mg:a7:=[(11,ts),(13,wo),(15,wm),(16,abb),(17,aba),(18,aa9),(19,aa8),(20,aa7)]
theorem Mk:aQ O (aY ad Mg):=aV ⟨Z1,Z0,auu,aut,aus,aur,auq,z20,⟨⟩⟩
abbrev i4:Shape:=⟨[b5 0 [ah,ah],b5 1 [bl .pack],ag 2],[],43⟩
abbrev abG:Shape:=⟨[ap 6],[],43⟩
noncomputable def f4(a:i4.F):Option abG.F:=
(f11 (((a.1.1.1,a.1.1.2.1,()),(1048576:Int),()),())).bind fun b=>
 bif(decide (b.1.1<(0:Int))) then
 some ((true,()),())
else
(f15 (((a.1.2.1.1,()),b.1.1,()),())).bind fun c=>
 bif(decide (c.1.1<(0:Int))) then
 some ((true,()),())
else
(f13 (((a.1.1.1,a.1.1.2.1,()),()),())).bind fun d=>
(f17 (((a.1.2.1.1,()),()),())).bind fun e=>
(f16 (((d.2.1.1,d.2.1.2.1,()),(e.2.1,()),a.1.2.2.1,()),())).bind fun f=>
(f17 (((a.1.2.1.1,()),()),())).bind fun g=>
(f13 (((a.1.1.1,a.1.1.2.1,()),()),())).bind fun h=>
(f18 (((h.2.1.1,h.2.1.2.1,()),(g.2.1,()),a.1.2.2.1,()),())).bind fun i=>
(f19 (((i.2.1.1,i.2.1.2.1,()),(f.2.1.1,f.2.1.2.1,()),()),())).bind fun j=>
 bif(!j.1.1) then
 some ((false,()),())
else
(f17 (((a.1.2.1.1,()),()),())).bind fun k=>
(f20 (((g.2.1,()),(k.2.1,()),()),())).bind fun l=>
 bif(!l.1.1) then
 some ((false,()),())
else
 some ((true,()),())
noncomputable def lA:aB:=aG ad Tryz.f4 i4 abG [] f4
theorem z4:ay O 4 lA:=aJ Mk Tryz.func4 (by kernel_rfl) af (fun y=>by kernel_rfl) fun a=>by kernel_rfl
def vn:J:=[101,110,100,10]
theorem aiI{ps:List aS}(hb:fj ps)(hr:fP ps=true):(dZ ps).length<=503317500:=by
 have hk:=(og hr).1;have bi:=(og hr).2;have h1:=rA (f:=fun p=>dU (cE p)) (xs:=ps) (n:=100663500) fun p hp=>Ec (hb.2 p hp) (hk p hp)
 have aE:ps.length*100663500<=5*100663500:=Nat.mul_le_mul_right _ bi;have e:(dZ ps).length=(ps.flatMap fun p=>dU (cE p)).length:=rfl
 omega
abbrev PS:Shape:=⟨[au 0 500000 0,ag 1],[ar 500000 [bl .u8,aX]],99⟩
abbrev PA:List aO:=[(.norm,⟨[au 0 500000 0,ag 1,ap 24],[ar 500000 [bl .u8,aX]],99⟩)]
noncomputable def yf(y:PS.F):Option (aA PA):=
 bif(!(decide (y.1.2.1<(1:Int)))) then
 some (((),y.1.2.1,((y.2.1.1.length:Int)==(0:Int)),()),(y.2.1.1,y.2.1.2.1,()),())
else
 some (((),y.1.2.1,true,()),(y.2.1.1,y.2.1.2.1,()),())
theorem aia:aT O (an (codeOf Tryz.f78) 1 28) (aU PS PA yf):=b8 g0 (by kernel_rfl) af fun y=>by kernel_rfl
abbrev UM:Shape:=⟨[au 0 500000 0,ag 1],[ar 500000 [bl .u8,aX]],99⟩
abbrev Ux:Shape:=⟨[au 0 500000 0,ag 4],[ar 500000 [bl .u8,aX]],99⟩
noncomputable def gn(a:UM.F):Option Ux.F:=
(yf (((),a.1.2.1,()),(a.2.1.1,(IntKind.i64.wrap (a.2.1.2.1+(1:Int))),()),())).bind fun b=>
 bif b.1.2.2.1 then
 some (((),(0:Int),()),(b.2.1.1,b.2.1.2.1,()),())
else
 bif(decide ((IntKind.i64.wrap (b.2.1.2.1-(1:Int)))<(b.2.1.1.length:Int))) then
(aN b.2.1.1 (IntKind.i64.wrap (b.2.1.2.1-(1:Int)))).bind fun c=>
(h' (IntKind.i64.wrap c) b.1.2.1).bind fun d=>
 some (((),d,()),(b.2.1.1,b.2.1.2.1,()),())
else
(h' (IntKind.i64.wrap (b.2.1.2.1-(1:Int))) (b.2.1.1.length:Int)).bind fun e=>
(aN b.2.1.1 e).bind fun f=>
(h' (IntKind.i64.wrap ((IntKind.i64.wrap ((IntKind.i64.wrap (b.2.1.2.1-(1:Int)))*(7:Int)))+(3:Int))) (b.2.1.1.length:Int)).bind fun g=>
(aN b.2.1.1 g).bind fun h=>
(lc .i64 (IntKind.i64.wrap (b.2.1.2.1-(1:Int))) (b.2.1.1.length:Int)).bind fun i=>
(lc .i64 (IntKind.i64.wrap ((IntKind.i64.wrap ((IntKind.i64.wrap ((IntKind.i64.wrap ((IntKind.i64.wrap f)*(131:Int)))+(IntKind.i64.wrap ((IntKind.i64.wrap h)*(1117:Int)))))+(IntKind.i64.wrap ((IntKind.i64.wrap (b.2.1.2.1-(1:Int)))*(29:Int)))))+(IntKind.i64.wrap (i*(53:Int))))) (64:Int)).bind fun j=>
(h' (c4 .i64 (IntKind.i64.wrap ((IntKind.i64.wrap ((IntKind.i64.wrap ((IntKind.i64.wrap ((IntKind.i64.wrap f)*(131:Int)))+(IntKind.i64.wrap ((IntKind.i64.wrap h)*(1117:Int)))))+(IntKind.i64.wrap ((IntKind.i64.wrap (b.2.1.2.1-(1:Int)))*(29:Int)))))+(IntKind.i64.wrap (i*(53:Int))))) j) b.1.2.1).bind fun k=>
 some (((),k,()),(b.2.1.1,b.2.1.2.1,()),())
noncomputable def jp:aB:=aG ad Tryz.f78 UM Ux [0] gn
theorem jN:ay O 78 jp:=aJ g0 Tryz.func78 (by kernel_rfl) (a6 aia af) (fun y=>by kernel_rfl) fun a=>by kernel_rfl
noncomputable abbrev ape:a7:=[(78,jp)]
theorem apj:aQ O (aY ad ape):=aV ⟨jN,⟨⟩⟩
abbrev UL:Shape:=⟨[au 0 500000 0,aK 1 .str],[ar 500000 [bl .u8,aX]],12⟩
abbrev Uw:Shape:=⟨[au 0 500000 0,ak 4],[ar 500000 [bl .u8,aX]],12⟩
noncomputable def jn(a:UL.F):Option Uw.F:=
(gn (((),(a.1.2.1.length:Int),()),(a.2.1.1,a.2.1.2.1,()),())).bind fun b=>
(aN a.1.2.1 b.1.2.1).bind fun c=>
 some (((),c,()),(b.2.1.1,b.2.1.2.1,()),())
noncomputable def k6:aB:=aG ad Tryz.f79 UL Uw [0] jn
theorem lL:ay O 79 k6:=aJ apj Tryz.func79 (by kernel_rfl) af (fun y=>by kernel_rfl) fun a=>by kernel_rfl
noncomputable abbrev anD:a7:=[(79,k6)]
theorem anW:aQ O (aY ad anD):=aV ⟨lL,⟨⟩⟩
abbrev Tx:Shape:=⟨[au 0 500000 0],[ar 500000 [bl .u8,aX]],6⟩
abbrev S3:Shape:=⟨[au 0 500000 0,ak 2],[ar 500000 [bl .u8,aX]],6⟩
noncomputable def r6(a:Tx.F):Option S3.F:=
(jn (((),([([49]:J),([49,46,48]:J),([49,46,49]:J),([49,46,50]:J),([50]:J),([48,46,57,46,57]:J),([49,46,49,48]:J),([57,57,57,46,57,57,57,46,57,57,57,46,57,57,57]:J)]:List J),()),(a.2.1.1,a.2.1.2.1,()),())).bind fun b=>
 some (((),b.1.2.1,()),(b.2.1.1,b.2.1.2.1,()),())
noncomputable def A0:aB:=aG ad Tryz.f176 Tx S3 [0] r6
theorem Hy:ay O 176 A0:=aJ anW Tryz.func176 (by kernel_rfl) af (fun y=>by kernel_rfl) fun a=>by kernel_rfl
noncomputable abbrev asb:a7:=[(143,JX),(144,JW),(145,JV),(194,BV),(202,vr)]
theorem J2:aQ O (aY ad asb):=aV ⟨z143,Vl,z145,z194,Bt,⟨⟩⟩
abbrev P0:Shape:=⟨[aK 0 .entry,au 3 3 0,a_ 4 3000256,ap 5,ag 6,ap 7,a_ 8 3000512],[ar 3 [ah,aX,aX,ah],a8 3000256 .entry 4 0,a8 3000512 .entry 8 0],68⟩
abbrev PI:List aO:=[(.norm,⟨[aK 0 .entry,au 3 3 0,a_ 4 3000256,ap 5,ag 6,ap 7,a_ 8 3000512,ap 18],[ar 3 [ah,aX,aX,ah],a8 3000256 .entry 4 0,a8 3000512 .entry 8 0],68⟩)]
noncomputable def yk(y:P0.F):Option (aA PI):=
(f143 (((y.2.1.1,y.2.1.2.1,y.2.1.2.2.1,y.2.1.2.2.2.1,()),()),())).bind fun a=>
 bif(!(!a.1.1)) then
(f145 ((y.2.1.1,()),())).bind fun b=>
(f144 ((y.1.1,b.1.1,()),())).bind fun c=>
 some ((y.1.1,(),(),y.1.2.2.2.1,y.1.2.2.2.2.1,y.1.2.2.2.2.2.1,(),(!c.1.1),()),(y.2.1.1,y.2.1.2.1,y.2.1.2.2.1,y.2.1.2.2.2.1,()),y.2.2.1,y.2.2.2.1,())
else
 some ((y.1.1,(),(),y.1.2.2.2.1,y.1.2.2.2.2.1,y.1.2.2.2.2.2.1,(),true,()),(y.2.1.1,y.2.1.2.1,y.2.1.2.2.1,y.2.1.2.2.2.1,()),y.2.2.1,y.2.2.2.1,())
theorem aiq:aT O (an (codeOf Tryz.f223) 1 120) (aU P0 PI yk):=b8 J2 (by kernel_rfl) af fun y=>by kernel_rfl
abbrev PZ:Shape:=⟨[aK 0 .entry,au 3 3 0,a_ 4 3000256,ap 5,ag 6,ap 7,a_ 8 3000512],[ar 3 [ah,aX,aX,ah],a8 3000256 .entry 4 0,a8 3000512 .entry 8 0],68⟩
abbrev PH:List aO:=[(.norm,⟨[aK 0 .entry,au 3 3 0,a_ 4 3000256,ap 5,ag 6,ap 7,a_ 8 3000512,ap 31],[ar 3 [ah,aX,aX,ah],a8 3000256 .entry 4 0,a8 3000512 .entry 8 0],68⟩)]
noncomputable def yj(y:PZ.F):Option (aA PH):=
 bif y.1.2.2.2.2.2.1 then
(aN y.1.1 y.1.2.2.2.2.1).bind fun a=>
 some ((y.1.1,(),(),y.1.2.2.2.1,y.1.2.2.2.2.1,y.1.2.2.2.2.2.1,(),(a.kind !=y.2.1.2.1),()),(y.2.1.1,y.2.1.2.1,y.2.1.2.2.1,y.2.1.2.2.2.1,()),y.2.2.1,y.2.2.2.1,())
else
 some ((y.1.1,(),(),y.1.2.2.2.1,y.1.2.2.2.2.1,y.1.2.2.2.2.2.1,(),false,()),(y.2.1.1,y.2.1.2.1,y.2.1.2.2.1,y.2.1.2.2.2.1,()),y.2.2.1,y.2.2.2.1,())
theorem aip:aT O (an (codeOf Tryz.f223) 1 486) (aU PZ PH yj):=b8 J2 (by kernel_rfl) af fun y=>by kernel_rfl
abbrev i223:Shape:=⟨[aK 0 .entry,b5 1 [ah,aX,aX,ah]],[],68⟩
abbrev VX:Shape:=⟨[a_ 4 3000256,ap 5],[a8 3000256 .entry 4 0],68⟩
noncomputable def f223(a:i223.F):Option VX.F:=
(f194 ((a.1.1,a.1.2.1.1,()),())).bind fun b=>
(f202 ((a.1.1,()),())).bind fun c=>
(yk ((a.1.1,(),(),false,b.1.1,b.1.2.1,(),()),(a.1.2.1.1,a.1.2.1.2.1,a.1.2.1.2.2.1,a.1.2.1.2.2.2.1,()),([]:List az),c.2.1,())).bind fun d=>
 bif d.1.2.2.2.2.2.2.2.1 then
 some (((),false,()),d.2.2.2.1,())
else
(yj ((d.1.1,(),(),d.1.2.2.2.1,d.1.2.2.2.2.1,d.1.2.2.2.2.2.1,(),()),(d.2.1.1,d.2.1.2.1,d.2.1.2.2.1,d.2.1.2.2.2.1,()),d.2.2.1,d.2.2.2.1,())).bind fun e=>
 bif e.1.2.2.2.2.2.2.2.1 then
 some (((),false,()),e.2.2.2.1,())
else
 bif e.1.2.2.2.2.2.1 then
(bk e.2.2.2.1.length e.1.2.2.2.2.1).bind fun f=>
((e.2.2.2.1[f]?).bind fun q=>some (az.mk e.2.1.1 e.2.1.2.1 e.2.1.2.2.1 e.2.1.2.2.2.1)).bind fun g=>
 some (((),true,()),(e.2.2.2.1.set f g),())
else
 bif(decide ((e.1.1.length:Int)>=(16:Int))) then
 some (((),false,()),e.2.2.2.1,())
else
(bu e.1.1 (0:Int) e.1.2.2.2.2.1).bind fun h=>
(cj 48 ([]:List az) h).bind fun i=>
(cj 48 i ([(az.mk e.2.1.1 e.2.1.2.1 e.2.1.2.2.1 e.2.1.2.2.2.1)]:List az)).bind fun j=>
(bu e.1.1 e.1.2.2.2.2.1 (e.1.1.length:Int)).bind fun k=>
(cj 48 j k).bind fun l=>
 some (((),true,()),l,())
noncomputable def Yj:aB:=aG ad Tryz.f223 i223 VX [] f223
theorem apM:ay O 223 Yj:=aJ J2 Tryz.func223 (by kernel_rfl) (a6 aiq (a6 aip af)) (fun y=>by kernel_rfl) fun a=>by kernel_rfl
noncomputable abbrev ant:a7:=[(79,k6)]
theorem anQ:aQ O (aY ad ant):=aV ⟨lL,⟨⟩⟩
abbrev To:Shape:=⟨[au 0 500000 0],[ar 500000 [bl .u8,aX]],6⟩
abbrev SV:Shape:=⟨[au 0 500000 0,ak 2],[ar 500000 [bl .u8,aX]],6⟩
noncomputable def r4(a:To.F):Option SV.F:=
(jn (((),([([97]:J),([98]:J),([97,47,98]:J),([97,47,99]:J),([97,47,98,47,99]:J),([108,105,98]:J),([108,105,98,47,120]:J),([108,105,98,47,120,46,99]:J),([100,111,99,47,121]:J),([98,105,110]:J),([98,105,110,47,122]:J),([97,47,98,47,99,47,100,47,101]:J)]:List J),()),(a.2.1.1,a.2.1.2.1,()),())).bind fun b=>
 some (((),b.1.2.1,()),(b.2.1.1,b.2.1.2.1,()),())
noncomputable def Ip:aB:=aG ad Tryz.f261 To SV [0] r4
theorem Sf:ay O 261 Ip:=aJ anQ Tryz.func261 (by kernel_rfl) af (fun y=>by kernel_rfl) fun a=>by kernel_rfl
abbrev PY:Shape:=⟨[ak 0,ag 1,ak 5],[],20⟩
abbrev PG:List aO:=[(.norm,⟨[ak 0,ag 1,ak 5],[],20⟩)]
noncomputable def yi(y:PY.F):Option (aA PG):=
(h' y.1.2.1 (2:Int)).bind fun a=>
 bif(a==(1:Int)) then
(bX y.1.2.2.1 y.1.1).bind fun b=>
 some ((y.1.1,y.1.2.1,b,()),())
else
 some ((y.1.1,y.1.2.1,y.1.2.2.1,()),())
theorem aio:aT O (an (cN (an (codeOf Tryz.f237) 1 28)) 56 452) (aU PY PG yi):=b8 g0 (by kernel_rfl) af fun y=>by kernel_rfl
abbrev yG:Shape:=⟨[ak 0,ag 1,ak 5],[],20⟩
abbrev F4:List aO:=[(.exit 0,⟨[ak 5],[],20⟩)]
noncomputable def R1(y:yG.F):bD yG F4:=
 bif(decide (y.1.2.1>(0:Int))) then
(yi ((y.1.1,y.1.2.1,y.1.2.2.1,()),())).bind fun a=>
(bX a.1.1 a.1.1).bind fun b=>
(lc .i64 a.1.2.1 (2:Int)).bind fun c=>
 some (.inl ((b,c,a.1.2.2.1,()),()))
else
 some (.inr ((y.1.2.2.1,()),()))
noncomputable def GO:yG.F->Option (aA F4):=bo R1
theorem akl:aT O (an (codeOf Tryz.f237) 1 28) (aU yG F4 GO):=bE g0 (by kernel_rfl) (a6 aio af) fun y=>by kernel_rfl
abbrev i237:Shape:=⟨[ak 0,ag 1],[],20⟩
abbrev VQ:Shape:=⟨[ak 4],[],20⟩
noncomputable def f237(a:i237.F):Option VQ.F:=
(GO ((a.1.1,a.1.2.1,([]:J),()),())).bind fun b=>
 some ((b.1.1,()),())
noncomputable def JH:aB:=aG ad Tryz.f237 i237 VQ [] f237
theorem Vd:ay O 237 JH:=aJ g0 Tryz.func237 (by kernel_rfl) (a6 akl af) (fun y=>by kernel_rfl) fun a=>by kernel_rfl
noncomputable abbrev ans:a7:=[(79,k6),(237,JH)]
theorem anP:aQ O (aY ad ans):=aV ⟨lL,Vd,⟨⟩⟩
abbrev Tn:Shape:=⟨[au 0 500000 0],[ar 500000 [bl .u8,aX]],7⟩
abbrev SU:Shape:=⟨[au 0 500000 0,ak 2],[ar 500000 [bl .u8,aX]],7⟩
noncomputable def AM(a:Tn.F):Option SU.F:=
(f237 ((([116]:J),(80:Int),()),())).bind fun b=>
(jn (((),([([]:J),([111,110,101,10]:J),([111,110,101,10,116,119,111,10,116,104,114,101,101,10]:J),([110,111,32,101,110,100]:J),([97,10,98,10,99,10,100,10,101,10,102,10,103,10]:J),b.1.1]:List J),()),(a.2.1.1,a.2.1.2.1,()),())).bind fun c=>
 some (((),c.1.2.1,()),(c.2.1.1,c.2.1.2.1,()),())
noncomputable def TZ:aB:=aG ad Tryz.f262 Tn SU [0] AM
theorem alS:ay O 262 TZ:=aJ anP Tryz.func262 (by kernel_rfl) af (fun y=>by kernel_rfl) fun a=>by kernel_rfl
noncomputable abbrev apf:a7:=[(78,jp)]
theorem apk:aQ O (aY ad apf):=aV ⟨jN,⟨⟩⟩
abbrev UN:Shape:=⟨[au 0 500000 0,aK 1 .i64],[ar 500000 [bl .u8,aX]],12⟩
abbrev Uy:Shape:=⟨[au 0 500000 0,ag 4],[ar 500000 [bl .u8,aX]],12⟩
noncomputable def uX(a:UN.F):Option Uy.F:=
(gn (((),(a.1.2.1.length:Int),()),(a.2.1.1,a.2.1.2.1,()),())).bind fun b=>
(aN a.1.2.1 b.1.2.1).bind fun c=>
 some (((),c,()),(b.2.1.1,b.2.1.2.1,()),())
noncomputable def IP:aB:=aG ad Tryz.f77 UN Uy [0] uX
theorem Uk:ay O 77 IP:=aJ apk Tryz.func77 (by kernel_rfl) af (fun y=>by kernel_rfl) fun a=>by kernel_rfl
noncomputable abbrev anx:a7:=[(77,IP),(78,jp),(261,Ip),(262,TZ)]
theorem anS:aQ O (aY ad anx):=aV ⟨Uk,jN,Sf,alS,⟨⟩⟩
abbrev Ts:Shape:=⟨[au 0 500000 0],[ar 500000 [bl .u8,aX]],26⟩
abbrev SY:Shape:=⟨[au 0 500000 0,au 2 2 0],[ar 500000 [bl .u8,aX],ar 2 [ah,aX,aX,ah]],26⟩
noncomputable def uE(a:Ts.F):Option SY.F:=
(r4 (((),()),(a.2.1.1,a.2.1.2.1,()),())).bind fun b=>
(uX (((),([(1:Int),(1:Int),(2:Int),(2:Int),(3:Int)]:List Int),()),(b.2.1.1,b.2.1.2.1,()),())).bind fun c=>
(gn (((),(8:Int),()),(c.2.1.1,c.2.1.2.1,()),())).bind fun d=>
 bif(c.1.2.1==(2:Int)) then
(AM (((),()),(d.2.1.1,d.2.1.2.1,()),())).bind fun e=>
 some (((),(),()),(e.2.1.1,e.2.1.2.1,()),(b.1.2.1,c.1.2.1,d.1.2.1,e.1.2.1,()),())
else
 bif(c.1.2.1==(3:Int)) then
(r4 (((),()),(d.2.1.1,d.2.1.2.1,()),())).bind fun f=>
 some (((),(),()),(f.2.1.1,f.2.1.2.1,()),(b.1.2.1,c.1.2.1,(0:Int),f.1.2.1,()),())
else
 some (((),(),()),(d.2.1.1,d.2.1.2.1,()),(b.1.2.1,c.1.2.1,d.1.2.1,([]:J),()),())
noncomputable def Iq:aB:=aG ad Tryz.f224 Ts SY [0] uE
theorem Sg:ay O 224 Iq:=aJ anS Tryz.func224 (by kernel_rfl) af (fun y=>by kernel_rfl) fun a=>by kernel_rfl
theorem hK(a)(m:Nat)(h:cQ a.2.1.1 a.2.1.2.1 m)(hm:1<=m):aa (gn a) (fun r=>cQ r.2.1.1 r.2.1.2.1 (m-1)/\(0:Int)<=r.1.2.1/\((1:Int)<=a.1.2.1->(r.1.2.1:Int)<a.1.2.1)):=by
 obtain⟨⟨u1,(n:Int),u2⟩,⟨⟨(b:List Int),(p:Int),C0⟩,ayF⟩⟩:=a;have h:cQ b p m:=h;obtain⟨h1,h2,h3,aE⟩:=h;have e1:IntKind.i64.wrap (p+1)=p+1:=cM (by omega) (by omega)
 have e2:IntKind.i64.wrap (p+1-1)=p:=by rw[show p+1-1=p by omega];exact cM (by omega) (by omega)
 have R:cQ b (p+1) (m-1):=⟨h1,h2,by omega,by omega⟩
 unfold gn;simp only[e1];have hg:yf (((),(n,())),((b,(p+1,())),()))=some ((((),(n,((decide (n<1)||(b.length:Int)==0),()))),((b,(p+1,())),()))):=by
  unfold yf;cases decide (n<1)<;>rfl
 refine aa.eq hg ?_
 refine aa.ite (fun hc=>aa.ret ⟨R,Int.le_refl _,fun hn=>hn⟩) fun hc=>?_
 have hc:(decide (n<1)||(b.length:Int)==0)=false:=hc;simp only[Bool.or_eq_false_iff,decide_eq_false_iff_not,beq_eq_false_iff_ne,ne_eq] at hc;have hn:1<=n:=by omega
 have hb:0<b.length:=by omega
 simp only[e2];refine aa.ite (fun Z=>?_) fun Z=>?_
 ·have Z:p<(b.length:Int):=of_decide_eq_true Z;obtain⟨x,aD,aF⟩:=mA (xs:=b) h3 Z;obtain⟨bI,cJ⟩:=h2 x aF;refine aa.eq aD ?_
  have bv:IntKind.i64.wrap x=x:=cM (by omega) (by omega)
  refine aa.eq (x:=x%n) (by show h' (IntKind.i64.wrap x) n=_;rw[bv];exact nx bI (by omega)) ?_
  exact aa.ret ⟨R,Int.emod_nonneg _ (by omega),fun _=>Int.emod_lt_of_pos _ (by omega)⟩
 ·have hl:0<(b.length:Int):=by omega
  have m7:IntKind.i64.wrap (IntKind.i64.wrap (p*7)+3)=p*7+3:=by rw[cM (n:=p*7) (by omega) (by omega)];exact cM (by omega) (by omega)
  obtain⟨x,aD,aF⟩:=mA (xs:=b) (Int.emod_nonneg p (b:=(b.length:Int)) (by omega)) (Int.emod_lt_of_pos p hl)
  obtain⟨bI,cJ⟩:=h2 x aF;obtain⟨y,dF,fw⟩:=mA (xs:=b) (Int.emod_nonneg (p*7+3) (b:=(b.length:Int)) (by omega)) (Int.emod_lt_of_pos (p*7+3) hl)
  obtain⟨wC,aAM⟩:=h2 y fw;have q0:0<=p/(b.length:Int):=Int.ediv_nonneg h3 (by omega)
  have q1:p/(b.length:Int)<=p:=Int.ediv_le_self _ h3;refine aa.eq (x:=p%(b.length:Int)) (nx h3 hl) ?_
  refine aa.eq aD ?_
  refine aa.eq (x:=(p*7+3)%(b.length:Int)) (by show h' (IntKind.i64.wrap (IntKind.i64.wrap (p*7)+3)) (b.length:Int)=_;rw[m7];exact nx (by omega) hl) ?_
  refine aa.eq dF ?_
  refine aa.eq (x:=p/(b.length:Int)) (uy rfl h3 (by omega) hl) ?_
  have bB:IntKind.i64.wrap x=x:=cM (by omega) (by omega)
  have w2:IntKind.i64.wrap y=y:=cM (by omega) (by omega)
  have ef:IntKind.i64.wrap (x*131)=x*131:=cM (by omega) (by omega)
  have lu:IntKind.i64.wrap (y*1117)=y*1117:=cM (by omega) (by omega)
  have qS:IntKind.i64.wrap (x*131+y*1117)=x*131+y*1117:=cM (by omega) (by omega)
  have n7:IntKind.i64.wrap (p*29)=p*29:=cM (by omega) (by omega)
  have i':IntKind.i64.wrap (x*131+y*1117+p*29)=x*131+y*1117+p*29:=cM (by omega) (by omega)
  have n6:IntKind.i64.wrap (p/(b.length:Int)*53)=p/(b.length:Int)*53:=cM (by omega) (by omega)
  have hC:IntKind.i64.wrap (x*131+y*1117+p*29+p/(b.length:Int)*53)=x*131+y*1117+p*29+p/(b.length:Int)*53:=cM (by omega) (by omega)
  simp only[bB,w2,ef,lu,qS,n7,i',n6,hC];have n0:0<=x*131+y*1117+p*29+p/(b.length:Int)*53:=by omega
  have n1:x*131+y*1117+p*29+p/(b.length:Int)*53<4611686018427387904:=by omega
  generalize x*131+y*1117+p*29+p/(b.length:Int)*53=X at n0 n1;refine aa.eq (x:=X/64) (uy rfl n0 (by omega) (by decide)) ?_
  have hx:=al9 n0 n1 (Int.ediv_nonneg n0 (by decide:(0:Int)<=64)) (Int.lt_of_le_of_lt (Int.ediv_le_self 64 n0) n1)
  refine aa.eq (x:=c4 .i64 X (X/64)%n) (nx hx (by omega)) ?_
  exact aa.ret ⟨R,Int.emod_nonneg _ (by omega),fun _=>Int.emod_lt_of_pos _ (by omega)⟩
theorem k_(a)(m:Nat)(h:cQ a.2.1.1 a.2.1.2.1 m)(hm:1<=m)(hl:(1:Int)<=(a.1.2.1:List J).length):aa (jn a) (fun r=>cQ r.2.1.1 r.2.1.2.1 (m-1)/\r.1.2.1∈(a.1.2.1:List J)):=by
 unfold jn;refine aa.bind (hK _ m h hm) fun r hr=>?_
 obtain⟨x,aD,aF⟩:=mA (xs:=(a.1.2.1:List J)) hr.2.1 (hr.2.2 hl);exact aa.eq aD (aa.ret ⟨hr.1,aF⟩)
theorem Um(a)(m:Nat)(h:cQ a.2.1.1 a.2.1.2.1 m)(hm:1<=m)(hl:(1:Int)<=(a.1.2.1:List Int).length):aa (uX a) (fun r=>cQ r.2.1.1 r.2.1.2.1 (m-1)/\r.1.2.1∈(a.1.2.1:List Int)):=by
 unfold uX;refine aa.bind (hK _ m h hm) fun r hr=>?_
 obtain⟨x,aD,aF⟩:=mA (xs:=(a.1.2.1:List Int)) hr.2.1 (hr.2.2 hl);exact aa.eq aD (aa.ret ⟨hr.1,aF⟩)
abbrev da(s:J):Prop:=s.length<=200
theorem pU{L:List J}(h:L.all (fun s=>decide (s.length<=200))=true){s:J}(hs:s∈L):da s:=of_decide_eq_true (List.all_eq_true.1 h s hs)
theorem Dl(a)(m:Nat)(h:cQ a.2.1.1 a.2.1.2.1 m)(hm:1<=m):aa (r6 a) (fun r=>cQ r.2.1.1 r.2.1.2.1 (m-1)/\da r.1.2.1):=by
 unfold r6;refine aa.bind (k_ _ m h hm (by simp)) fun r hr=>aa.ret ⟨hr.1,pU (by rfl) hr.2⟩
theorem DY(a)(m:Nat)(h:cQ a.2.1.1 a.2.1.2.1 m)(hm:1<=m):aa (r4 a) (fun r=>cQ r.2.1.1 r.2.1.2.1 (m-1)/\da r.1.2.1):=by
 unfold r4;refine aa.bind (k_ _ m h hm (by simp)) fun r hr=>aa.ret ⟨hr.1,pU (by rfl) hr.2⟩
theorem Ps(a)(hs:(a.1.1:J).length<=1)(h0:(0:Int)<=a.1.2.1)(h1:(a.1.2.1:Int)<=127):aa (f237 a) (fun r=>da r.1.1):=by
 obtain⟨⟨(s:J),(n:Int),u⟩,bT⟩:=a;unfold f237;have key:aa (GO ((s,(n,(([]:J),()))),())) (fun r=>da r.1.1):=by
  refine aa.loop (fun(k:Nat) y=>(0:Int)<=y.1.2.1/\(y.1.2.1:Int).toNat=k/\(y.1.2.1:Int).toNat*(y.1.1:J).length+(y.1.2.2.1:J).length<=127/\(y.1.1:J).length<=256/\(y.1.2.1:Int)<=127) (fun k y hy=>?_) n.toNat _ ⟨h0,rfl,?_,by show s.length<=256;have:s.length<=1:=hs;omega,h1⟩
  ·obtain⟨⟨(s:J),(n:Int),(out:J),u⟩,bT⟩:=y;obtain⟨db,dD,dK,hA,eA⟩:=hy;have eA:n<=127:=eA;have db:0<=n:=db;have dK:n.toNat*s.length+out.length<=127:=dK;have hA:s.length<=256:=hA;unfold R1;refine aa.ite (fun hc=>?_) fun hc=>?_
   ·have hc:n>0:=of_decide_eq_true hc;have gf:1<=n.toNat:=by omega
    have ib:s.length<=127:=by have:=Nat.mul_le_mul_right s.length gf;omega
    have piece:aa (yi ((s,(n,(out,()))),())) (fun r=>r.1.1=s/\r.1.2.1=n/\(n%2=1/\(r.1.2.2.1:J).length=out.length+s.length\/n%2=0/\(r.1.2.2.1:J).length=out.length)):=by
     unfold yi;refine aa.eq (x:=n%2) (nx db (by decide)) ?_
     refine aa.ite (fun Z=>?_) fun Z=>?_
     ·have Z:n%2=1:=by simpa using Z
      exact aa.eq (dA (s:=out) (t:=s) (by omega)) (aa.ret ⟨rfl,rfl,.inl ⟨Z,by simp⟩⟩)
     ·have Z:¬n%2=1:=by simpa using Z
      exact aa.ret ⟨rfl,rfl,.inr ⟨by omega,rfl⟩⟩
    refine aa.bind piece fun r hr=>?_
    obtain⟨⟨(aM:J),(gR:Int),(I2:J),v⟩,v'⟩:=r;obtain⟨r1,r2,c_⟩:=hr;have r1:aM=s:=r1;have r2:gR=n:=r2;subst r1 r2;refine aa.eq (dA (s:=aM) (t:=aM) (by omega)) ?_
    refine aa.eq (x:=gR/2) (uy (x:=gR) rfl db (by omega) (by decide)) ?_
    refine aa.ret ⟨(gR/2).toNat,?_,?_⟩
    ·show(gR/2).toNat<k;have:gR.toNat=k:=dD;omega
    ·refine⟨by show 0<=gR/2;omega,rfl,?_,by show(aM++aM).length<=256;simp;omega,by show gR/2<=127;omega⟩
     show(gR/2).toNat*(aM++aM).length+I2.length<=127;have c_:gR%2=1/\I2.length=out.length+aM.length\/gR%2=0/\I2.length=out.length:=c_;obtain⟨q,aC⟩:∃q:Nat,(gR/2).toNat=q:=⟨_,rfl⟩;rw[aC,List.length_append];rcases c_ with⟨c_,fJ⟩|⟨c_,fJ⟩
     ·have e:gR.toNat=2*q+1:=by omega
      rw[e] at dK;rw[fJ];have:(2*q+1)*aM.length=q*(aM.length+aM.length)+aM.length:=by rw[Nat.add_mul,Nat.one_mul,Nat.mul_assoc,Nat.mul_add];omega
      omega
     ·have e:gR.toNat=2*q:=by omega
      rw[e] at dK;rw[fJ];have:2*q*aM.length=q*(aM.length+aM.length):=by rw[Nat.mul_add,Nat.mul_assoc];omega
      omega
   ·exact aa.ret (show out.length<=200 by omega)
  ·show n.toNat*s.length+0<=127;have hs:s.length<=1:=hs;have h1:n<=127:=h1;have:n.toNat*s.length<=n.toNat*1:=Nat.mul_le_mul_left _ hs;omega
 exact aa.bind key fun r hr=>aa.ret hr
theorem afG(a)(m:Nat)(h:cQ a.2.1.1 a.2.1.2.1 m)(hm:1<=m):aa (AM a) (fun r=>cQ r.2.1.1 r.2.1.2.1 (m-1)/\da r.1.2.1):=by
 unfold AM;refine aa.bind (Ps _ (by simp) (by show(0:Int)<=80;decide) (by show(80:Int)<=127;decide)) fun q aC=>?_
 refine aa.bind (k_ _ m h hm (by simp)) fun r hr=>aa.ret ⟨hr.1,?_⟩
 have:=hr.2;simp only[List.mem_cons,List.not_mem_nil,or_false] at this;rcases this with e|e|e|e|e|e
 ·show(r.1.2.1:J).length<=200;rw[e];decide
 ·show(r.1.2.1:J).length<=200;rw[e];decide
 ·show(r.1.2.1:J).length<=200;rw[e];decide
 ·show(r.1.2.1:J).length<=200;rw[e];decide
 ·show(r.1.2.1:J).length<=200;rw[e];decide
 ·show(r.1.2.1:J).length<=200;rw[e];exact aC
abbrev lr(e:az):Prop:=da e.path/\da e.text
theorem Nu(a)(m:Nat)(h:cQ a.2.1.1 a.2.1.2.1 m)(hm:4<=m):aa (uE a) (fun r=>cQ r.2.1.1 r.2.1.2.1 (m-4)/\lr ⟨r.2.2.1.1,r.2.2.1.2.1,r.2.2.1.2.2.1,r.2.2.1.2.2.2.1⟩):=by
 unfold uE;refine aa.bind (DY _ m h (by omega)) fun r1 h1=>?_
 refine aa.bind (Um _ (m-1) h1.1 (by omega) (by simp)) fun r2 h2=>?_
 refine aa.bind (hK _ (m-1-1) h2.1 (by omega)) fun c_ h3=>?_
 refine aa.ite (fun _=>?_) fun _=>aa.ite (fun _=>?_) fun _=>?_
 ·exact aa.bind (afG _ _ h3.1 (by omega)) fun fJ aE=>aa.ret ⟨aE.1.less (by omega),h1.2,aE.2⟩
 ·exact aa.bind (DY _ _ h3.1 (by omega)) fun fJ aE=>aa.ret ⟨aE.1.less (by omega),h1.2,aE.2⟩
 ·exact aa.ret ⟨h3.1.less (by omega),h1.2,show(0:Nat)<=200 by decide⟩
theorem EJ(a)(h:b9 a.1.1.length):f202 a=some (((),()),(a.1.1,())):=by
 obtain⟨⟨t,u⟩,bT⟩:=a;have h:t.length<=2097152:=h;simp only[f202,dt (show(48:Nat)<=100 by decide) (show ax (([]:List az).length+t.length) by unfold ax;simp;omega),List.nil_append,Option.bind_some]
abbrev iA(t:List az):Prop:=t.length<=16/\∀e,e∈t->lr e
theorem Q1{t:List az}{k:Nat}{e:az}(h:∀e,e∈t->lr e)(he:lr e):∀x,x∈t.set k e->lr x:=by
 intro x hx;rcases List.mem_or_eq_of_mem_set hx with hx|hx
 ·exact h x hx
 ·rw[hx];exact he
theorem FQ(a)(aw:iA a.1.1)(he:lr ⟨a.1.2.1.1,a.1.2.1.2.1,a.1.2.1.2.2.1,a.1.2.1.2.2.2.1⟩):aa (f223 a) (fun r=>iA r.2.1):=by
 obtain⟨⟨t,⟨path,kind,mode,text,n9⟩,u⟩,bT⟩:=a;obtain⟨h1,h2⟩:=aw;have h1:t.length<=16:=h1;have he:lr ⟨path,kind,mode,text⟩:=he;have hb:b9 t.length:=by unfold b9;omega
 unfold f223;refine aa.eq (HB ((t,(path,())),()) hb) ?_
 refine aa.eq (EJ ((t,()),()) hb) ?_
 have hp:=pO t path;have e1:=N8 (((path,(kind,(mode,(text,())))),()),()) (Nat.le_trans he.1 (by decide)) (Nat.le_trans he.2 (by decide))
 have e2:=Sn ((path,()),()) (Nat.le_trans he.1 (by decide))
 have bv:=QE ((t,(iw path,())),()) hb;obtain⟨c,hc⟩:∃c:Bool,yk ((t,((),((),(false,((bK t path:Int),(gm t path,((),()))))))),((path,(kind,(mode,(text,())))),(([]:List az),(t,()))))=
   some ((t,((),((),(false,((bK t path:Int),(gm t path,((),(c,())))))))),((path,(kind,(mode,(text,())))),(([]:List az),(t,())))):=by
  unfold yk;simp only[e1,Option.bind_some,Bool.not_not];cases eN ⟨path,kind,mode,text⟩ with
  |false=>exact⟨true,rfl⟩
  |true=>simp only[cond_true,e2,Option.bind_some,bv];exact⟨_,rfl⟩
 refine aa.eq hc ?_
 refine aa.ite (fun _=>aa.ret ⟨h1,h2⟩) fun _=>?_
 obtain⟨d,Z⟩:∃d:Bool,yj ((t,((),((),(false,((bK t path:Int),(gm t path,((),()))))))),((path,(kind,(mode,(text,())))),(([]:List az),(t,()))))=
   some ((t,((),((),(false,((bK t path:Int),(gm t path,((),(d,())))))))),((path,(kind,(mode,(text,())))),(([]:List az),(t,())))):=by
  unfold yj;cases bJ:gm t path with
  |false=>exact⟨false,rfl⟩
  |true=>
   unfold gm at bJ;cases aC:t[bK t path]? with
   |none=>rw[aC] at bJ;cases bJ
   |some e=>simp only[cond_true,bY,aC,Option.bind_some];exact⟨_,rfl⟩
 refine aa.eq Z ?_
 refine aa.ite (fun _=>aa.ret ⟨h1,h2⟩) fun _=>?_
 refine aa.ite (fun bJ=>?_) fun _=>aa.ite (fun _=>aa.ret ⟨h1,h2⟩) fun hl=>?_
 ·have bJ:gm t path=true:=bJ;unfold gm at bJ;cases aC:t[bK t path]? with
  |none=>rw[aC] at bJ;cases bJ
  |some e=>
   refine aa.eq (fO (cD aC)) ?_
   refine aa.eq (x:=az.mk path kind mode text) (by show(t[bK t path]?).bind _=_;rw[aC];rfl) ?_
   exact aa.ret ⟨by show(t.set _ _).length<=16;rw[List.length_set];exact h1,Q1 h2 he⟩
 ·have hl:¬((t.length:Int)>=16):=of_decide_eq_false hl;refine aa.eq (ii hp) ?_
  refine aa.eq (dt (by decide) (by unfold ax;simp;omega)) ?_
  refine aa.eq (dt (by decide) (by unfold ax;simp;omega)) ?_
  refine aa.eq (iI hp) ?_
  refine aa.eq (dt (by decide) (by unfold ax;simp;omega)) ?_
  refine aa.ret ⟨?_,fun x hx=>?_⟩
  ·show(([]++t.take (bK t path)++[az.mk path kind mode text])++t.drop (bK t path)).length<=16;simp;omega
  ·have hx:x∈([]++t.take (bK t path)++[az.mk path kind mode text])++t.drop (bK t path):=hx;simp only[List.nil_append,List.mem_append,List.mem_singleton] at hx;rcases hx with(hx|hx)|hx
   ·exact h2 x (List.mem_of_mem_take hx)
   ·rw[hx];exact he
   ·exact h2 x (List.mem_of_mem_drop hx)
noncomputable abbrev arW:a7:=[(146,BW)]
theorem vx:aQ O (aY ad arW):=aV ⟨z146,⟨⟩⟩
abbrev Q8:Shape:=⟨[ak 0,ag 3],[],43⟩
abbrev QO:List aO:=[(.norm,⟨[ak 0,ag 3,ap 12],[],43⟩)]
noncomputable def RX(y:Q8.F):Option (aA QO):=
 bif(decide ((y.1.1.length:Int)>(1:Int))) then
(aN y.1.1 (1:Int)).bind fun a=>
 some ((y.1.1,y.1.2.1,((a.toNat:Int)==(33:Int)),()),())
else
 some ((y.1.1,y.1.2.1,false,()),())
theorem akc:aT O (an (an (codeOf Tryz.f284) 1 14) 14 28) (aU Q8 QO RX):=b8 vx (by kernel_rfl) af fun y=>by kernel_rfl
abbrev Q9:Shape:=⟨[ak 0,ag 3],[],43⟩
abbrev QP:List aO:=[(.norm,⟨[ak 0,ag 3],[],43⟩)]
noncomputable def RY(y:Q9.F):Option (aA QP):=
(RX ((y.1.1,y.1.2.1,()),())).bind fun a=>
 bif a.1.2.2.1 then
 some ((a.1.1,(2:Int),()),())
else
 some ((a.1.1,a.1.2.1,()),())
theorem akd:aT O (an (codeOf Tryz.f284) 1 14) (aU Q9 QP RY):=b8 vx (by kernel_rfl) (a6 akc af) fun y=>by kernel_rfl
abbrev xU:Shape:=⟨[ak 0,ag 3,ag 4],[],43⟩
abbrev ET:List aO:=[(.exit 0,⟨[ak 0,ag 3,ag 4],[],43⟩)]
noncomputable def ajb(y:xU.F):bD xU ET:=
 bif(decide (y.1.2.1<(y.1.1.length:Int))) then
(aN y.1.1 y.1.2.1).bind fun a=>
(f146 (((a.toNat:Int),()),())).bind fun b=>
 bif b.1.1 then
 some (.inl ((y.1.1,(IntKind.i64.wrap (y.1.2.1+(1:Int))),y.1.2.2.1,()),()))
else
 some (.inr ((y.1.1,y.1.2.1,y.1.2.2.1,()),()))
else
 some (.inr ((y.1.1,y.1.2.1,y.1.2.2.1,()),()))
noncomputable def Qc:xU.F->Option (aA ET):=bo ajb
theorem aij:aT O (an (codeOf Tryz.f284) 1 124) (aU xU ET Qc):=bE vx (by kernel_rfl) af fun y=>by kernel_rfl
abbrev PW:Shape:=⟨[ak 0,ag 3,ag 4],[],43⟩
abbrev PE:List aO:=[(.norm,⟨[ag 3,ap 40],[],43⟩)]
noncomputable def Qq(y:PW.F):Option (aA PE):=
 bif(!(y.1.2.1==y.1.2.2.1)) then
 bif(!(y.1.2.1==(y.1.1.length:Int))) then
(aN y.1.1 y.1.2.1).bind fun a=>
 some ((y.1.2.1,((a.toNat:Int) !=(93:Int)),()),())
else
 some ((y.1.2.1,true,()),())
else
 some ((y.1.2.1,true,()),())
theorem aii:aT O (an (codeOf Tryz.f284) 1 252) (aU PW PE Qq):=b8 vx (by kernel_rfl) af fun y=>by kernel_rfl
abbrev i284:Shape:=⟨[ak 0],[],43⟩
abbrev VB:Shape:=⟨[ag 2],[],43⟩
noncomputable def f284(a:i284.F):Option VB.F:=
(RY ((a.1.1,(1:Int),()),())).bind fun b=>
(Qc ((b.1.1,b.1.2.1,b.1.2.1,()),())).bind fun c=>
(Qq ((c.1.1,c.1.2.1,c.1.2.2.1,()),())).bind fun d=>
 bif d.1.2.1 then
 some (((0:Int),()),())
else
 some (((IntKind.i64.wrap (d.1.1+(1:Int))),()),())
noncomputable def JE:aB:=aG ad Tryz.f284 i284 VB [] f284
theorem Va:ay O 284 JE:=aJ vx Tryz.func284 (by kernel_rfl) (a6 akd (a6 aij (a6 aii af))) (fun y=>by kernel_rfl) fun a=>by kernel_rfl
noncomputable abbrev arZ:a7:=[(146,BW),(284,JE)]
theorem J0:aQ O (aY ad arZ):=aV ⟨z146,Va,⟨⟩⟩
abbrev OC:Shape:=⟨[ak 0,ag 3],[],45⟩
abbrev Og:List aO:=[(.norm,⟨[ak 0,ag 3,ap 26],[],45⟩)]
noncomputable def xC(y:OC.F):Option (aA Og):=
(aN y.1.1 y.1.2.1).bind fun a=>
 bif(!((a.toNat:Int)==(42:Int))) then
(aN y.1.1 y.1.2.1).bind fun b=>
 some ((y.1.1,y.1.2.1,((b.toNat:Int)==(63:Int)),()),())
else
 some ((y.1.1,y.1.2.1,true,()),())
theorem agi:aT O (an (cN (an (codeOf Tryz.f279) 1 26)) 52 6726) (aU OC Og xC):=b8 J0 (by kernel_rfl) af fun y=>by kernel_rfl
abbrev yA:Shape:=⟨[ak 0,ag 3],[],45⟩
abbrev FY:List aO:=[(.ret,⟨[ap 2],[],45⟩),(.exit 0,⟨[ak 0],[],45⟩)]
noncomputable def RZ(y:yA.F):bD yA FY:=
 bif(decide (y.1.2.1<(y.1.1.length:Int))) then
(aN y.1.1 y.1.2.1).bind fun a=>
 bif((a.toNat:Int)==(91:Int)) then
(bu y.1.1 y.1.2.1 (y.1.1.length:Int)).bind fun b=>
(f284 ((b,()),())).bind fun c=>
 bif(c.1.1==(0:Int)) then
 some (.inr (.inl ((false,()),())))
else
 some (.inl ((y.1.1,(IntKind.i64.wrap ((IntKind.i64.wrap ((IntKind.i64.wrap (y.1.2.1+c.1.1))-(1:Int)))+(1:Int))),()),()))
else
(xC ((y.1.1,y.1.2.1,()),())).bind fun d=>
 bif d.1.2.2.1 then
 some (.inl ((d.1.1,(IntKind.i64.wrap (d.1.2.1+(1:Int))),()),()))
else
(aN d.1.1 d.1.2.1).bind fun e=>
(f146 (((e.toNat:Int),()),())).bind fun f=>
 bif(!f.1.1) then
 some (.inr (.inl ((false,()),())))
else
 some (.inl ((d.1.1,(IntKind.i64.wrap (d.1.2.1+(1:Int))),()),()))
else
 some (.inr (.inr ((y.1.1,()),())))
noncomputable def RA:yA.F->Option (aA FY):=bo RZ
theorem akf:aT O (an (codeOf Tryz.f279) 1 26) (aU yA FY RA):=bE J0 (by kernel_rfl) (a6 agi af) fun y=>by kernel_rfl
abbrev i279:Shape:=⟨[ak 0],[],45⟩
abbrev VD:Shape:=⟨[ap 2],[],45⟩
noncomputable def f279(a:i279.F):Option VD.F:=
(RA ((a.1.1,(0:Int),()),())).bind fun b=>
(match b with
|.inl c=>
 some ((c.1.1,()),())
|.inr d=>
 some (((!(d.1.1==([]:J))),()),()))
noncomputable def X1:aB:=aG ad Tryz.f279 i279 VD [] f279
theorem apx:ay O 279 X1:=aJ J0 Tryz.func279 (by kernel_rfl) (a6 akf af) (fun y=>by kernel_rfl) fun a=>by kernel_rfl
noncomputable abbrev ar4:a7:=[(73,ph),(279,X1)]
theorem Zo:aQ O (aY ad ar4):=aV ⟨qq,apx,⟨⟩⟩
abbrev yD:Shape:=⟨[ak 0,a_ 3 3000192,ag 4],[a8 3000192 .str 3 0],30⟩
abbrev F1:List aO:=[(.ret,⟨[ap 2],[],30⟩),(.exit 0,⟨[ak 0,a_ 3 3000192],[a8 3000192 .str 3 0],30⟩)]
noncomputable def R0(y:yD.F):bD yD F1:=
 bif(decide (y.1.2.2.1<(y.2.1.length:Int))) then
(bk y.2.1.length y.1.2.2.1).bind fun a=>
(y.2.1[a]?).bind fun b=>
(f279 ((b,()),())).bind fun c=>
 bif(!c.1.1) then
 some (.inr (.inl ((false,()),())))
else
 some (.inl ((y.1.1,(),(IntKind.i64.wrap (y.1.2.2.1+(1:Int))),()),y.2.1,()))
else
 some (.inr (.inr ((y.1.1,(),()),y.2.1,())))
noncomputable def RB:yD.F->Option (aA F1):=bo R0
theorem aki:aT O (an (codeOf Tryz.f258) 1 58) (aU yD F1 RB):=bE Zo (by kernel_rfl) af fun y=>by kernel_rfl
abbrev i258:Shape:=⟨[ak 0],[],30⟩
abbrev VL:Shape:=⟨[ap 2],[],30⟩
noncomputable def f258(a:i258.F):Option VL.F:=
(f73 ((a.1.1,(47:Int),(IntKind.i64.wrap ((a.1.1.length:Int)+(1:Int))),()),())).bind fun b=>
(RB ((a.1.1,(),(0:Int),()),b.2.1,())).bind fun c=>
(match c with
|.inl d=>
 some ((d.1.1,()),())
|.inr e=>
 bif(decide ((e.2.1.length:Int)<=(5:Int))) then
 some (((decide ((e.1.1.length:Int)<=(40:Int))),()),())
else
 some ((false,()),()))
noncomputable def X9:aB:=aG ad Tryz.f258 i258 VL [] f258
theorem apF:ay O 258 X9:=aJ Zo Tryz.func258 (by kernel_rfl) (a6 aki af) (fun y=>by kernel_rfl) fun a=>by kernel_rfl
abbrev OB:Shape:=⟨[ak 0,(1,.am (.d (.int .u8))),ap 5,ag 6],[],33⟩
abbrev Of:List aO:=[(.norm,⟨[ak 0,(1,.am (.d (.int .u8))),ap 5,ag 6,ap 29],[],33⟩)]
noncomputable def O8(y:OB.F):Option (aA Of):=
(aN y.1.1 y.1.2.2.2.1).bind fun a=>
 bif((a.toNat:Int)==y.1.2.1) then
 bif(!(decide (y.1.2.2.2.1>(1:Int)))) then
 some ((y.1.1,y.1.2.1,y.1.2.2.1,y.1.2.2.2.1,(!y.1.2.2.1),()),())
else
 some ((y.1.1,y.1.2.1,y.1.2.2.1,y.1.2.2.2.1,true,()),())
else
 some ((y.1.1,y.1.2.1,y.1.2.2.1,y.1.2.2.2.1,false,()),())
theorem agh:aT O (an (cN (an (codeOf Tryz.f285) 1 58)) 116 1864) (aU OB Of O8):=b8 g0 (by kernel_rfl) af fun y=>by kernel_rfl
abbrev yy:Shape:=⟨[ak 0,(1,.am (.d (.int .u8))),ap 5,ag 6],[],33⟩
abbrev FW:List aO:=[(.ret,⟨[ap 4],[],33⟩),(.exit 0,⟨[ap 5],[],33⟩)]
noncomputable def alp(y:yy.F):bD yy FW:=
 bif(decide (y.1.2.2.2.1<(IntKind.i64.wrap ((y.1.1.length:Int)-(1:Int))))) then
(O8 ((y.1.1,y.1.2.1,y.1.2.2.1,y.1.2.2.2.1,()),())).bind fun a=>
 bif a.1.2.2.2.2.1 then
 some (.inr (.inl (((!a.1.2.2.1),()),())))
else
 some (.inl ((a.1.1,a.1.2.1,a.1.2.2.1,(IntKind.i64.wrap (a.1.2.2.2.1+(1:Int))),()),()))
else
 some (.inr (.inr ((y.1.2.2.1,()),())))
noncomputable def Rz:yy.F->Option (aA FW):=bo alp
theorem akb:aT O (an (codeOf Tryz.f285) 1 58) (aU yy FW Rz):=bE g0 (by kernel_rfl) (a6 agh af) fun y=>by kernel_rfl
abbrev i285:Shape:=⟨[ak 0,(1,.am (.d (.int .u8)))],[],33⟩
abbrev VA:Shape:=⟨[ap 4],[],33⟩
noncomputable def f285(a:i285.F):Option VA.F:=
(aN a.1.1 (1:Int)).bind fun b=>
(Rz ((a.1.1,a.1.2.1,((b.toNat:Int)==(33:Int)),(1:Int),()),())).bind fun c=>
(match c with
|.inl d=>
 some ((d.1.1,()),())
|.inr e=>
 some ((e.1.1,()),()))
noncomputable def XX:aB:=aG ad Tryz.f285 i285 VA [] f285
theorem apt:ay O 285 XX:=aJ g0 Tryz.func285 (by kernel_rfl) (a6 akb af) (fun y=>by kernel_rfl) fun a=>by kernel_rfl
abbrev i280:Shape:=⟨[ak 0,ak 1],[],68⟩
abbrev mD:Shape:=⟨[ap 4],[],68⟩
noncomputable def IM(aR:i280.F->Option mD.F):aB:=aG ad Tryz.f280 i280 mD [] aR
noncomputable abbrev arY(aR:i280.F->Option mD.F):a7:=[(280,(IM aR)),(284,JE),(285,XX)]
theorem atp(aR:i280.F->Option mD.F)(en:ay O 280 (IM aR)):aQ O (aY ad (arY aR)):=aV ⟨en,Va,apt,⟨⟩⟩
noncomputable def oO(aR:i280.F->Option mD.F)(a:i280.F):Option mD.F:=
 bif(a.1.1==([]:J)) then
 some (((a.1.2.1==([]:J)),()),())
else
(aN a.1.1 (0:Int)).bind fun b=>
 bif((b.toNat:Int)==(42:Int)) then
(bu a.1.1 (1:Int) (a.1.1.length:Int)).bind fun c=>
(aR ((c,a.1.2.1,()),())).bind fun d=>
 bif(!d.1.1) then
 bif(!(a.1.2.1==([]:J))) then
(bu a.1.2.1 (1:Int) (a.1.2.1.length:Int)).bind fun e=>
(aR ((a.1.1,e,()),())).bind fun f=>
 some ((f.1.1,()),())
else
 some ((false,()),())
else
 some ((true,()),())
else
 bif(a.1.2.1==([]:J)) then
 some ((false,()),())
else
(aN a.1.1 (0:Int)).bind fun g=>
 bif((g.toNat:Int)==(63:Int)) then
(bu a.1.1 (1:Int) (a.1.1.length:Int)).bind fun h=>
(bu a.1.2.1 (1:Int) (a.1.2.1.length:Int)).bind fun i=>
(aR ((h,i,()),())).bind fun j=>
 some ((j.1.1,()),())
else
 bif((g.toNat:Int)==(91:Int)) then
(f284 ((a.1.1,()),())).bind fun k=>
(bu a.1.1 (0:Int) k.1.1).bind fun l=>
(aN a.1.2.1 (0:Int)).bind fun m=>
(f285 ((l,(m.toNat:Int),()),())).bind fun n=>
 bif n.1.1 then
(bu a.1.1 k.1.1 (a.1.1.length:Int)).bind fun B=>
(bu a.1.2.1 (1:Int) (a.1.2.1.length:Int)).bind fun p=>
(aR ((B,p,()),())).bind fun q=>
 some ((q.1.1,()),())
else
 some ((false,()),())
else
(aN a.1.1 (0:Int)).bind fun r=>
(aN a.1.2.1 (0:Int)).bind fun s=>
 bif((r.toNat:Int)==(s.toNat:Int)) then
(bu a.1.1 (1:Int) (a.1.1.length:Int)).bind fun t=>
(bu a.1.2.1 (1:Int) (a.1.2.1.length:Int)).bind fun u=>
(aR ((t,u,()),())).bind fun v=>
 some ((v.1.1,()),())
else
 some ((false,()),())
theorem an5(aR:i280.F->Option mD.F)(en:ay O 280 (IM aR)):ay O 280 (aG ad Tryz.f280 i280 mD [] (oO aR)):=aJ (atp aR en) Tryz.func280 (by kernel_rfl) af (fun y=>by kernel_rfl) fun a=>by kernel_rfl
noncomputable def f280:i280.F->Option mD.F:=jk oO jQ
noncomputable def X0:aB:=aG ad Tryz.f280 i280 mD [] f280
theorem apw:ay O 280 X0:=HU (ff:=oO) an5 jQ
abbrev i259:Shape:=⟨[aK 0 .str,aK 1 .str],[],49⟩
abbrev mE:Shape:=⟨[ap 4],[],49⟩
noncomputable def IN(aR:i259.F->Option mE.F):aB:=aG ad Tryz.f259 i259 mE [] aR
noncomputable abbrev ar3(aR:i259.F->Option mE.F):a7:=[(259,(IN aR)),(280,X0)]
theorem ats(aR:i259.F->Option mE.F)(en:ay O 259 (IN aR)):aQ O (aY ad (ar3 aR)):=aV ⟨en,apw,⟨⟩⟩
noncomputable def p'(aR:i259.F->Option mE.F)(a:i259.F):Option mE.F:=
 bif((a.1.1.length:Int)==(0:Int)) then
 some ((((a.1.2.1.length:Int)==(0:Int)),()),())
else
(aN a.1.1 (0:Int)).bind fun b=>
 bif(b==([42,42]:J)) then
(bu a.1.1 (1:Int) (a.1.1.length:Int)).bind fun c=>
(aR ((c,a.1.2.1,()),())).bind fun d=>
 bif(!d.1.1) then
 bif(decide ((a.1.2.1.length:Int)>(0:Int))) then
(bu a.1.2.1 (1:Int) (a.1.2.1.length:Int)).bind fun e=>
(aR ((a.1.1,e,()),())).bind fun f=>
 some ((f.1.1,()),())
else
 some ((false,()),())
else
 some ((true,()),())
else
 bif(decide ((a.1.2.1.length:Int)>(0:Int))) then
(aN a.1.1 (0:Int)).bind fun g=>
(aN a.1.2.1 (0:Int)).bind fun h=>
(f280 ((g,h,()),())).bind fun i=>
 bif i.1.1 then
(bu a.1.1 (1:Int) (a.1.1.length:Int)).bind fun j=>
(bu a.1.2.1 (1:Int) (a.1.2.1.length:Int)).bind fun k=>
(aR ((j,k,()),())).bind fun l=>
 some ((l.1.1,()),())
else
 some ((false,()),())
else
 some ((false,()),())
theorem an6(aR:i259.F->Option mE.F)(en:ay O 259 (IN aR)):ay O 259 (aG ad Tryz.f259 i259 mE [] (p' aR)):=aJ (ats aR en) Tryz.func259 (by kernel_rfl) af (fun y=>by kernel_rfl) fun a=>by kernel_rfl
noncomputable def f259:i259.F->Option mE.F:=jk p' jQ
noncomputable def X8:aB:=aG ad Tryz.f259 i259 mE [] f259
theorem apE:ay O 259 X8:=HU (ff:=p') an6 jQ
noncomputable abbrev asd:a7:=[(73,ph),(193,JO),(258,X9),(259,X8)]
theorem atx:aQ O (aY ad asd):=aV ⟨qq,z193,apF,apE,⟨⟩⟩
abbrev i221:Shape:=⟨[ak 0,ak 1],[],24⟩
abbrev VZ:Shape:=⟨[ap 4],[],24⟩
noncomputable def f221(a:i221.F):Option VZ.F:=
(f258 ((a.1.1,()),())).bind fun b=>
 bif b.1.1 then
(f193 ((a.1.2.1,()),())).bind fun c=>
 bif c.1.1 then
(f73 ((a.1.1,(47:Int),(IntKind.i64.wrap ((a.1.1.length:Int)+(1:Int))),()),())).bind fun d=>
(f73 ((a.1.2.1,(47:Int),(IntKind.i64.wrap ((a.1.2.1.length:Int)+(1:Int))),()),())).bind fun e=>
(f259 ((d.2.1,e.2.1,()),())).bind fun f=>
 some ((f.1.1,()),())
else
 some ((false,()),())
else
 some ((false,()),())
noncomputable def JJ:aB:=aG ad Tryz.f221 i221 VZ [] f221
theorem Vf:ay O 221 JJ:=aJ atx Tryz.func221 (by kernel_rfl) af (fun y=>by kernel_rfl) fun a=>by kernel_rfl
abbrev i260:Shape:=⟨[ak 0,ak 1],[],30⟩
abbrev VK:Shape:=⟨[ap 4],[],30⟩
noncomputable def f260(a:i260.F):Option VK.F:=
 bif(!(a.1.2.1==a.1.1)) then
 bif(decide ((a.1.2.1.length:Int)>(a.1.1.length:Int))) then
(bu a.1.2.1 (0:Int) (a.1.1.length:Int)).bind fun b=>
 bif(b==a.1.1) then
(aN a.1.2.1 (a.1.1.length:Int)).bind fun c=>
 some ((((c.toNat:Int)==(47:Int)),()),())
else
 some ((false,()),())
else
 some ((false,()),())
else
 some ((true,()),())
noncomputable def X7:aB:=aG ad Tryz.f260 i260 VK [] f260
theorem apD:ay O 260 X7:=aJ g0 Tryz.func260 (by kernel_rfl) af (fun y=>by kernel_rfl) fun a=>by kernel_rfl
noncomputable abbrev asc:a7:=[(221,JJ),(260,X7)]
theorem J3:aQ O (aY ad asc):=aV ⟨Vf,apD,⟨⟩⟩
abbrev P1:Shape:=⟨[aK 0 .entry,ak 1,ak 2,ag 7],[],30⟩
abbrev PJ:List aO:=[(.norm,⟨[aK 0 .entry,ak 1,ak 2,ag 7,ap 29],[],30⟩)]
noncomputable def yl(y:P1.F):Option (aA PJ):=
(aN y.1.1 y.1.2.2.2.1).bind fun a=>
(f260 ((y.1.2.2.1,a.path,()),())).bind fun b=>
 bif b.1.1 then
(aN y.1.1 y.1.2.2.2.1).bind fun c=>
(f221 ((y.1.2.1,c.path,()),())).bind fun d=>
 some ((y.1.1,y.1.2.1,y.1.2.2.1,y.1.2.2.2.1,d.1.1,()),())
else
 some ((y.1.1,y.1.2.1,y.1.2.2.1,y.1.2.2.2.1,false,()),())
theorem air:aT O (an (cN (an (codeOf Tryz.f222) 1 26)) 52 840) (aU P1 PJ yl):=b8 J3 (by kernel_rfl) af fun y=>by kernel_rfl
abbrev yH:Shape:=⟨[aK 0 .entry,ak 1,ak 2,ag 7],[],30⟩
abbrev F5:List aO:=[(.ret,⟨[ap 6],[],30⟩),(.exit 0,⟨[],[],30⟩)]
noncomputable def R3(y:yH.F):bD yH F5:=
 bif(decide (y.1.2.2.2.1<(y.1.1.length:Int))) then
(yl ((y.1.1,y.1.2.1,y.1.2.2.1,y.1.2.2.2.1,()),())).bind fun a=>
 bif a.1.2.2.2.2.1 then
 some (.inr (.inl ((true,()),())))
else
 some (.inl ((a.1.1,a.1.2.1,a.1.2.2.1,(IntKind.i64.wrap (a.1.2.2.2.1+(1:Int))),()),()))
else
 some (.inr (.inr ((),())))
noncomputable def RC:yH.F->Option (aA F5):=bo R3
theorem akn:aT O (an (codeOf Tryz.f222) 1 26) (aU yH F5 RC):=bE J3 (by kernel_rfl) (a6 air af) fun y=>by kernel_rfl
abbrev i222:Shape:=⟨[aK 0 .entry,ak 1,ak 2],[],30⟩
abbrev VY:Shape:=⟨[ap 6],[],30⟩
noncomputable def f222(a:i222.F):Option VY.F:=
(RC ((a.1.1,a.1.2.1,a.1.2.2.1,(0:Int),()),())).bind fun b=>
(match b with
|.inl c=>
 some ((c.1.1,()),())
|.inr d=>
 some ((false,()),()))
noncomputable def Yk:aB:=aG ad Tryz.f222 i222 VY [] f222
theorem z222:ay O 222 Yk:=aJ J3 Tryz.func222 (by kernel_rfl) (a6 akn af) (fun y=>by kernel_rfl) fun a=>by kernel_rfl
noncomputable abbrev asz:a7:=[(90,wj),(221,JJ),(222,Yk)]
theorem J6:aQ O (aY ad asz):=aV ⟨B_,Vf,z222,⟨⟩⟩
abbrev OG:Shape:=⟨[aK 0 .entry,ak 1,a_ 5 3000320,ag 6],[a8 3000320 .entry 5 0],51⟩
abbrev Ok:List aO:=[(.norm,⟨[aK 0 .entry,ak 1,a_ 5 3000320,ag 6,ap 42],[a8 3000320 .entry 5 0],51⟩)]
noncomputable def xF(y:OG.F):Option (aA Ok):=
(aN y.1.1 y.1.2.2.2.1).bind fun a=>
(f221 ((y.1.2.1,a.path,()),())).bind fun b=>
 bif(!b.1.1) then
(aN y.1.1 y.1.2.2.2.1).bind fun c=>
 bif(c.kind==(1:Int)) then
(aN y.1.1 y.1.2.2.2.1).bind fun d=>
(f222 ((y.1.1,y.1.2.1,d.path,()),())).bind fun e=>
 some ((y.1.1,y.1.2.1,(),y.1.2.2.2.1,e.1.1,()),y.2.1,())
else
 some ((y.1.1,y.1.2.1,(),y.1.2.2.2.1,false,()),y.2.1,())
else
 some ((y.1.1,y.1.2.1,(),y.1.2.2.2.1,true,()),y.2.1,())
theorem agp:aT O (an (cN (an (codeOf Tryz.f177) 1 58)) 116 1864) (aU OG Ok xF):=b8 J6 (by kernel_rfl) af fun y=>by kernel_rfl
abbrev yQ:Shape:=⟨[aK 0 .entry,ak 1,a_ 5 3000320,ag 6],[a8 3000320 .entry 5 0],51⟩
abbrev Ga:List aO:=[(.exit 0,⟨[a_ 5 3000320],[a8 3000320 .entry 5 0],51⟩)]
noncomputable def R4(y:yQ.F):bD yQ Ga:=
 bif(decide (y.1.2.2.2.1<(y.1.1.length:Int))) then
(f90 ((y.1.1,()),())).bind fun a=>
 bif a.1.1 then
(xF ((y.1.1,y.1.2.1,(),y.1.2.2.2.1,()),y.2.1,())).bind fun b=>
 bif b.1.2.2.2.2.1 then
(aN b.1.1 b.1.2.2.2.1).bind fun c=>
(cj 48 b.2.1 ([c]:List az)).bind fun d=>
 some (.inl ((b.1.1,b.1.2.1,(),(IntKind.i64.wrap (b.1.2.2.2.1+(1:Int))),()),d,()))
else
 some (.inl ((b.1.1,b.1.2.1,(),(IntKind.i64.wrap (b.1.2.2.2.1+(1:Int))),()),b.2.1,()))
else
 some (.inr (((),()),y.2.1,()))
else
 some (.inr (((),()),y.2.1,()))
noncomputable def RF:yQ.F->Option (aA Ga):=bo R4
theorem akA:aT O (an (codeOf Tryz.f177) 1 58) (aU yQ Ga RF):=bE J6 (by kernel_rfl) (a6 agp af) fun y=>by kernel_rfl
abbrev i177:Shape:=⟨[aK 0 .entry,ak 1],[],51⟩
abbrev Wt:Shape:=⟨[a_ 4 3000256],[a8 3000256 .entry 4 0],51⟩
noncomputable def f177(a:i177.F):Option Wt.F:=
(RF ((a.1.1,a.1.2.1,(),(0:Int),()),([]:List az),())).bind fun b=>
 some (((),()),b.2.1,())
noncomputable def YH:aB:=aG ad Tryz.f177 i177 Wt [] f177
theorem ap6:ay O 177 YH:=aJ J6 Tryz.func177 (by kernel_rfl) (a6 akA af) (fun y=>by kernel_rfl) fun a=>by kernel_rfl
noncomputable abbrev anC:a7:=[(78,jp),(83,wk),(223,Yj),(224,Iq)]
theorem A3:aQ O (aY ad anC):=aV ⟨jN,B',apM,Sg,⟨⟩⟩
abbrev w7:Shape:=⟨[au 0 500000 0,a_ 3 3000192,a_ 4 3000256,ag 5],[ar 500000 [bl .u8,aX],a8 3000192 .entry 3 0,a8 3000256 .str 4 0],59⟩
abbrev DF:List aO:=[(.exit 0,⟨[au 0 500000 0,a_ 3 3000192],[ar 500000 [bl .u8,aX],a8 3000192 .entry 3 0],59⟩)]
noncomputable def NT(y:w7.F):bD w7 DF:=
 bif(decide (y.1.2.2.2.1<(y.2.2.2.1.length:Int))) then
(gn (((),(2:Int),()),(y.2.1.1,y.2.1.2.1,()),())).bind fun a=>
 bif(a.1.2.1==(0:Int)) then
(bk y.2.2.2.1.length y.1.2.2.2.1).bind fun b=>
(y.2.2.2.1[b]?).bind fun c=>
(f223 ((y.2.2.1,(c,(1:Int),(7:Int),([]:J),()),()),())).bind fun d=>
 some (.inl (((),(),(),(IntKind.i64.wrap (y.1.2.2.2.1+(1:Int))),()),(a.2.1.1,a.2.1.2.1,()),d.2.1,y.2.2.2.1,()))
else
 some (.inl (((),(),(),(IntKind.i64.wrap (y.1.2.2.2.1+(1:Int))),()),(a.2.1.1,a.2.1.2.1,()),y.2.2.1,y.2.2.2.1,()))
else
 some (.inr (((),(),()),(y.2.1.1,y.2.1.2.1,()),y.2.2.1,()))
noncomputable def NM:w7.F->Option (aA DF):=bo NT
theorem aeP:aT O (an (codeOf Tryz.f178) 1 122) (aU w7 DF NM):=bE A3 (by kernel_rfl) af fun y=>by kernel_rfl
abbrev w6:Shape:=⟨[au 0 500000 0,a_ 3 3000192,ag 6],[ar 500000 [bl .u8,aX],a8 3000192 .entry 3 0],59⟩
abbrev DE:List aO:=[(.exit 2,⟨[au 0 500000 0,a_ 3 3000192],[ar 500000 [bl .u8,aX],a8 3000192 .entry 3 0],59⟩)]
noncomputable def NS(y:w6.F):bD w6 DE:=
 bif(decide (y.1.2.2.1>(0:Int))) then
(uE (((),()),(y.2.1.1,y.2.1.2.1,()),())).bind fun a=>
(f223 ((y.2.2.1,(a.2.2.1.1,a.2.2.1.2.1,a.2.2.1.2.2.1,a.2.2.1.2.2.2.1,()),()),())).bind fun b=>
 some (.inl (((),(),(IntKind.i64.wrap (y.1.2.2.1-(1:Int))),()),(a.2.1.1,a.2.1.2.1,()),b.2.1,()))
else
 some (.inr (((),(),()),(y.2.1.1,y.2.1.2.1,()),y.2.2.1,()))
noncomputable def NL:w6.F->Option (aA DE):=bo NS
theorem aeO:aT O (an (codeOf Tryz.f178) 1 250) (aU w6 DE NL):=bE A3 (by kernel_rfl) af fun y=>by kernel_rfl
abbrev wZ:Shape:=⟨[au 0 500000 0,a_ 3 3000192,ag 7],[ar 500000 [bl .u8,aX],a8 3000192 .entry 3 0],59⟩
abbrev Dt:List aO:=[(.exit 4,⟨[au 0 500000 0,a_ 3 3000192],[ar 500000 [bl .u8,aX],a8 3000192 .entry 3 0],59⟩)]
noncomputable def Ni(y:wZ.F):bD wZ Dt:=
 bif(decide (y.1.2.2.1<(16:Int))) then
(f83 ((y.1.2.2.1,()),())).bind fun a=>
(bX ([102]:J) a.1.1).bind fun b=>
(f223 ((y.2.2.1,(b,(2:Int),(0:Int),([]:J),()),()),())).bind fun c=>
 some (.inl (((),(),(IntKind.i64.wrap (y.1.2.2.1+(1:Int))),()),(y.2.1.1,y.2.1.2.1,()),c.2.1,()))
else
 some (.inr (((),(),()),(y.2.1.1,y.2.1.2.1,()),y.2.2.1,()))
noncomputable def Nb:wZ.F->Option (aA Dt):=bo Ni
theorem adR:aT O (an (codeOf Tryz.f178) 1 2026) (aU wZ Dt Nb):=bE A3 (by kernel_rfl) af fun y=>by kernel_rfl
abbrev Tw:Shape:=⟨[au 0 500000 0],[ar 500000 [bl .u8,aX]],59⟩
abbrev S2:Shape:=⟨[au 0 500000 0,a_ 2 3000128],[ar 500000 [bl .u8,aX],a8 3000128 .entry 2 0],59⟩
noncomputable def uG(a:Tw.F):Option S2.F:=
(NM (((),(),(),(0:Int),()),(a.2.1.1,a.2.1.2.1,()),([]:List az),([([97]:J),([108,105,98]:J),([98,105,110]:J),([100,111,99]:J),([97,47,98]:J)]:List J),())).bind fun b=>
(gn (((),(7:Int),()),(b.2.1.1,b.2.1.2.1,()),())).bind fun c=>
(NL (((),(),c.1.2.1,()),(c.2.1.1,c.2.1.2.1,()),b.2.2.1,())).bind fun d=>
(gn (((),(30:Int),()),(d.2.1.1,d.2.1.2.1,()),())).bind fun e=>
 bif(e.1.2.1==(0:Int)) then
(Nb (((),(),(0:Int),()),(e.2.1.1,e.2.1.2.1,()),d.2.2.1,())).bind fun f=>
 some (((),(),()),(f.2.1.1,f.2.1.2.1,()),f.2.2.1,())
else
 some (((),(),()),(e.2.1.1,e.2.1.2.1,()),d.2.2.1,())
noncomputable def Ir:aB:=aG ad Tryz.f178 Tw S2 [0] uG
theorem Sh:ay O 178 Ir:=aJ A3 Tryz.func178 (by kernel_rfl) (a6 aeP (a6 aeO (a6 adR af))) (fun y=>by kernel_rfl) fun a=>by kernel_rfl
abbrev kn(g:J):Prop:=∀b,b∈g->b.toNat≠91
theorem As{s:J}{i:Int}(h0:0<=i)(h1:i<(s.length:Int)):∃x,aN s i=some x/\x∈s:=mA h0 h1
theorem adw(a)(hs:b9 a.1.1.length)(hn:kn a.1.1):aa (f279 a) (fun _=>True):=by
 obtain⟨⟨(s:J),u⟩,bT⟩:=a;have hs:s.length<=2097152:=hs;unfold f279;refine aa.bind (P:=fun _=>True) ?_ fun r _=>?_
 ·refine aa.loop (fun(k:Nat) y=>y.1.1=s/\(0:Int)<=y.1.2.1/\(y.1.2.1:Int)+k=s.length) (fun k y hy=>?_) s.length _ ⟨rfl,Int.le_refl _,by show(0:Int)+s.length=s.length;omega⟩
  obtain⟨⟨(s1:J),(i:Int),u⟩,bT⟩:=y;obtain⟨db,dD,dK⟩:=hy;have db:s1=s:=db;subst db;have dD:0<=i:=dD;have dK:i+k=s1.length:=dK;unfold RZ;refine aa.ite (fun hc=>?_) fun _=>aa.ret trivial
  have hc:i<(s1.length:Int):=of_decide_eq_true hc;obtain⟨x,aD,aF⟩:=As dD hc;have hx:((x.toNat:Int)==91)=false:=by
   have:=hn x aF;simp only[beq_eq_false_iff_ne,ne_eq];omega
  have hw:IntKind.i64.wrap (i+1)=i+1:=cM (by omega) (by omega)
  refine aa.eq aD ?_
  refine aa.ite (fun Z=>by rw[hx] at Z;cases Z) fun _=>?_
  have piece:aa (xC ((s1,(i,())),())) (fun r=>r.1.1=s1/\r.1.2.1=i):=by
   unfold xC;refine aa.eq aD ?_
   exact aa.ite (fun _=>aa.eq aD (aa.ret ⟨rfl,rfl⟩)) fun _=>aa.ret ⟨rfl,rfl⟩
  refine aa.bind piece fun r hr=>?_
  obtain⟨⟨(s2:J),(i2:Int),(c:Bool),v⟩,v'⟩:=r;obtain⟨r1,r2⟩:=hr;have r1:s2=s1:=r1;have r2:i2=i:=r2;subst r1 r2;refine aa.ite (fun _=>?_) fun _=>?_
  ·refine aa.ret ⟨k-1,by omega,rfl,?_,?_⟩
   ·show 0<=IntKind.i64.wrap (i2+1);rw[hw];omega
   ·show IntKind.i64.wrap (i2+1)+((k-1:Nat):Int)=_;rw[hw];omega
  ·refine aa.eq aD ?_
   refine aa.eq (N9 (((x.toNat:Int),()),())) ?_
   refine aa.ite (fun _=>aa.ret trivial) fun _=>?_
   refine aa.ret ⟨k-1,by omega,rfl,?_,?_⟩
   ·show 0<=IntKind.i64.wrap (i2+1);rw[hw];omega
   ·show IntKind.i64.wrap (i2+1)+((k-1:Nat):Int)=_;rw[hw];omega
 ·cases r with
  |inl r=>exact aa.ret trivial
  |inr r=>exact aa.ret trivial
theorem M3{g:J}(h:kn g):∀x,x∈bC 47 g->kn x:=by
 induction g with
 |nil=>
  intro x hx b hb;simp[bC] at hx;subst hx;cases hb
 |cons c g ih=>
  have ih:=ih fun b hb=>h b (List.mem_cons_of_mem _ hb)
  intro x hx b hb;simp only[bC] at hx;cases hc:(c==47) with
  |true=>
   simp only[hc,cond_true,List.mem_cons] at hx;rcases hx with rfl|hx
   ·cases hb
   ·exact ih x hx b hb
  |false=>
   simp only[hc,cond_false] at hx;cases dG:bC 47 g with
   |nil=>exact absurd dG (oi 47 g)
   |cons y L=>
    rw[dG] at hx ih;simp only[List.mem_cons] at hx;rcases hx with rfl|hx
    ·rcases List.mem_cons.1 hb with rfl|hb
     ·exact h _ List.mem_cons_self
     ·exact ih y List.mem_cons_self b hb
    ·exact ih x (List.mem_cons_of_mem _ hx) b hb
theorem ahK(a)(hs:a.1.1.length<=200)(hn:kn a.1.1):aa (f258 a) (fun _=>True):=by
 obtain⟨⟨(g:J),u⟩,bT⟩:=a;have hs:g.length<=200:=hs;unfold f258;have hw:IntKind.i64.wrap ((g.length:Int)+1)=((g.length+1:Nat):Int):=b4 (by unfold ax;omega)
 refine aa.eq (t' 47 ((g,((47:Int),(IntKind.i64.wrap ((g.length:Int)+1),()))),()) (by show g.length<=2097152;omega) rfl hw) ?_
 have dG:(bC 47 g).length<=201:=by have:=nf 47 g;omega
 refine aa.bind (P:=fun _=>True) ?_ fun r _=>?_
 ·refine aa.loop (fun(k:Nat) y=>y.2.1=bC 47 g/\(0:Int)<=y.1.2.2.1/\(y.1.2.2.1:Int)+k=(bC 47 g).length) (fun k y hy=>?_) (bC 47 g).length _ ⟨rfl,Int.le_refl _,by show(0:Int)+_=_;omega⟩
  obtain⟨⟨(g1:J),u1,(i:Int),u⟩,(L:List J),bT⟩:=y;obtain⟨db,dD,dK⟩:=hy;have db:L=bC 47 g:=db;have dD:0<=i:=dD;have dK:i+k=(bC 47 g).length:=dK;subst db;unfold R0;refine aa.ite (fun hc=>?_) fun _=>aa.ret trivial
  have hc:i<((bC 47 g).length:Int):=of_decide_eq_true hc;obtain⟨j,rfl⟩:=Int.eq_ofNat_of_zero_le dD;have hj:j<(bC 47 g).length:=by omega
  have hw:IntKind.i64.wrap ((j:Int)+1)=(j:Int)+1:=cM (by omega) (by omega)
  refine aa.eq (fO hj) ?_
  refine aa.eq (List.getElem?_eq_getElem hj) ?_
  have hm:=List.getElem_mem hj;refine aa.bind (adw (((bC 47 g)[j],()),()) (by have:=pq 47 g _ hm;show((bC 47 g)[j]).length<=2097152;omega) (M3 hn _ hm)) fun r _=>?_
  refine aa.ite (fun _=>aa.ret trivial) fun _=>?_
  refine aa.ret ⟨k-1,by omega,rfl,?_,?_⟩
  ·show 0<=IntKind.i64.wrap ((j:Int)+1);rw[hw];omega
  ·show IntKind.i64.wrap ((j:Int)+1)+((k-1:Nat):Int)=_;rw[hw];omega
 ·cases r with
  |inl r=>exact aa.ret trivial
  |inr r=>exact aa.ite (fun _=>aa.ret trivial) fun _=>aa.ret trivial
theorem si{s:J}(h:s≠[]):bu s (1:Int) (s.length:Int)=some (s.drop 1):=iI (a:=1) (by have:=List.length_pos_iff.2 h;omega)
theorem z1{s:List J}(h:0<s.length):bu s (1:Int) (s.length:Int)=some (s.drop 1):=iI (a:=1) h
theorem OW{s:J}(h:(s==([]:J))=false):s≠[]:=by simpa using h
theorem aly:∀(n:Nat) (g s:J),kn g->g.length+s.length<n->aa (jk oO n ((g,(s,())),())) (fun _=>True):=by
 intro n;induction n with
 |zero=>intro g s _ h;omega
 |succ n ih=>
  intro g s hn hl;show aa (oO (jk oO n) _) _;unfold oO;refine aa.ite (fun _=>aa.ret trivial) fun hg=>?_
  have hg:g≠[]:=OW hg;have KZ:=List.length_pos_iff.2 hg;obtain⟨x,aD,aF⟩:=As (s:=g) (i:=0) (by omega) (by omega)
  refine aa.eq aD ?_
  have hd1:kn (g.drop 1):=fun b hb=>hn b (List.mem_of_mem_drop hb)
  have hdl:(g.drop 1).length+1=g.length:=by rw[List.length_drop];omega
  refine aa.ite (fun _=>?_) fun _=>?_
  ·refine aa.eq (si hg) ?_
   refine aa.bind (ih (g.drop 1) s hd1 (by omega)) fun r _=>?_
   refine aa.ite (fun _=>?_) fun _=>aa.ret trivial
   refine aa.ite (fun hs=>?_) fun _=>aa.ret trivial
   have hs:s≠[]:=by
    have hs:(!(s==([]:J)))=true:=hs;intro e;subst e;cases hs
   have kq:=List.length_pos_iff.2 hs;refine aa.eq (si hs) ?_
   exact aa.bind (ih g (s.drop 1) hn (by rw[List.length_drop];omega)) fun r _=>aa.ret trivial
  ·refine aa.ite (fun _=>aa.ret trivial) fun hs=>?_
   have hs:s≠[]:=OW hs;have kq:=List.length_pos_iff.2 hs;have step:aa (jk oO n ((g.drop 1,(s.drop 1,())),())) (fun _=>True):=ih _ _ hd1 (by rw[List.length_drop];rw[List.length_drop];omega)
   refine aa.eq aD ?_
   refine aa.ite (fun _=>?_) fun _=>?_
   ·refine aa.eq (si hg) ?_
    refine aa.eq (si hs) ?_
    exact aa.bind step fun r _=>aa.ret trivial
   ·have hx:((x.toNat:Int)==91)=false:=by
     have:=hn x aF;simp only[beq_eq_false_iff_ne,ne_eq];omega
    refine aa.ite (fun Z=>by rw[hx] at Z;cases Z) fun _=>?_
    refine aa.eq aD ?_
    obtain⟨y,dF,fw⟩:=As (s:=s) (i:=0) (by omega) (by omega)
    refine aa.eq dF ?_
    refine aa.ite (fun _=>?_) fun _=>aa.ret trivial
    refine aa.eq (si hg) ?_
    refine aa.eq (si hs) ?_
    exact aa.bind step fun r _=>aa.ret trivial
theorem ahC(a)(h1:b9 a.1.1.length)(h2:b9 a.1.2.1.length)(hn:kn a.1.1):aa (f280 a) (fun _=>True):=by
 obtain⟨⟨(g:J),(s:J),u⟩,bT⟩:=a;have h1:g.length<=2097152:=h1;have h2:s.length<=2097152:=h2;exact aly jQ g s hn (by unfold jQ;omega)
theorem aiS:∀(n:Nat) (g s:List J),(∀x,x∈g->kn x/\b9 x.length)->(∀x,x∈s->b9 x.length)->g.length+s.length<n->aa (jk p' n ((g,(s,())),())) (fun _=>True):=by
 intro n;induction n with
 |zero=>intro g s _ _ h;omega
 |succ n ih=>
  intro g s hn hs hl;show aa (p' (jk p' n) _) _;unfold p';refine aa.ite (fun _=>aa.ret trivial) fun hg=>?_
  have KZ:0<g.length:=by
   have hg:((g.length:Int)==0)=false:=hg;simp only[beq_eq_false_iff_ne,ne_eq] at hg;omega
  obtain⟨x,aD,aF⟩:=mA (xs:=g) (i:=0) (by omega) (by omega)
  refine aa.eq aD ?_
  have hd1:∀x,x∈g.drop 1->kn x/\b9 x.length:=fun b hb=>hn b (List.mem_of_mem_drop hb)
  have o8:∀x,x∈s.drop 1->b9 x.length:=fun b hb=>hs b (List.mem_of_mem_drop hb)
  have hdl:(g.drop 1).length+1=g.length:=by rw[List.length_drop];omega
  refine aa.ite (fun _=>?_) fun _=>?_
  ·refine aa.eq (z1 KZ) ?_
   refine aa.bind (ih (g.drop 1) s hd1 hs (by omega)) fun r _=>?_
   refine aa.ite (fun _=>?_) fun _=>aa.ret trivial
   refine aa.ite (fun hc=>?_) fun _=>aa.ret trivial
   have hc:(s.length:Int)>0:=of_decide_eq_true hc;refine aa.eq (z1 (s:=s) (by omega)) ?_
   exact aa.bind (ih g (s.drop 1) hn o8 (by rw[List.length_drop];omega)) fun r _=>aa.ret trivial
  ·refine aa.ite (fun hc=>?_) fun _=>aa.ret trivial
   have hc:(s.length:Int)>0:=of_decide_eq_true hc;refine aa.eq aD ?_
   obtain⟨y,dF,fw⟩:=mA (xs:=s) (i:=0) (by omega) (by omega)
   refine aa.eq dF ?_
   refine aa.bind (ahC ((x,(y,())),()) (hn x aF).2 (hs y fw) (hn x aF).1) fun r _=>?_
   refine aa.ite (fun _=>?_) fun _=>aa.ret trivial
   refine aa.eq (z1 KZ) ?_
   refine aa.eq (z1 (s:=s) (by omega)) ?_
   exact aa.bind (ih (g.drop 1) (s.drop 1) hd1 o8 (by rw[List.length_drop];rw[List.length_drop];omega)) fun r _=>aa.ret trivial
theorem Od(a)(h1:a.1.1.length<=200)(h2:a.1.2.1.length<=1048576)(hn:kn a.1.1):aa (f221 a) (fun _=>True):=by
 obtain⟨⟨(g:J),(s:J),u⟩,bT⟩:=a;have h1:g.length<=200:=h1;have h2:s.length<=1048576:=h2;unfold f221;refine aa.bind (ahK ((g,()),()) h1 hn) fun r _=>?_
 refine aa.ite (fun _=>?_) fun _=>aa.ret trivial
 refine aa.eq (EK ((s,()),()) (by show s.length<=2097152;omega)) ?_
 refine aa.ite (fun _=>?_) fun _=>aa.ret trivial
 refine aa.eq (t' 47 ((g,((47:Int),(IntKind.i64.wrap ((g.length:Int)+1),()))),()) (by show g.length<=2097152;omega) rfl (b4 (by unfold ax;omega))) ?_
 refine aa.eq (t' 47 ((s,((47:Int),(IntKind.i64.wrap ((s.length:Int)+1),()))),()) (by show s.length<=2097152;omega) rfl (b4 (by unfold ax;omega))) ?_
 have g1:=nf 47 g;have s1:=nf 47 s;refine aa.bind (P:=fun _=>True) ?_ fun r _=>aa.ret trivial
 exact aiS jQ (bC 47 g) (bC 47 s) (fun x hx=>⟨M3 hn x hx,by have:=pq 47 g x hx;unfold b9;omega⟩) (fun x hx=>by have:=pq 47 s x hx;unfold b9;omega) (by unfold jQ;omega)
theorem afF(a)(h1:b9 a.1.1.length):aa (f260 a) (fun _=>True):=by
 obtain⟨⟨(g:J),(s:J),u⟩,bT⟩:=a;unfold f260;refine aa.ite (fun _=>?_) fun _=>aa.ret trivial
 refine aa.ite (fun hc=>?_) fun _=>aa.ret trivial
 have hc:(s.length:Int)>(g.length:Int):=of_decide_eq_true hc;refine aa.eq (ii (xs:=s) (b:=g.length) (by omega)) ?_
 refine aa.ite (fun _=>?_) fun _=>aa.ret trivial
 obtain⟨x,aD,_⟩:=As (s:=s) (i:=(g.length:Int)) (by omega) (by omega)
 exact aa.eq aD (aa.ret trivial)
theorem aes(a)(aw:iA a.1.1)(hg:a.1.2.1.length<=200)(hn:kn a.1.2.1)(Z:da a.1.2.2.1):aa (f222 a) (fun _=>True):=by
 obtain⟨⟨(t:List az),(g:J),(d:J),u⟩,bT⟩:=a;obtain⟨mR,lo⟩:=aw;have mR:t.length<=16:=mR;have Z:d.length<=200:=Z;unfold f222;refine aa.bind (P:=fun _=>True) ?_ fun r _=>?_
 ·refine aa.loop (fun(k:Nat) y=>y.1.1=t/\y.1.2.1=g/\y.1.2.2.1=d/\(0:Int)<=y.1.2.2.2.1/\(y.1.2.2.2.1:Int)+k=t.length) (fun k y hy=>?_) t.length _ ⟨rfl,rfl,rfl,Int.le_refl _,by show(0:Int)+_=_;omega⟩
  obtain⟨⟨(t1:List az),(g1:J),(d1:J),(i:Int),u⟩,bT⟩:=y;obtain⟨db,dD,dK,hA,eA⟩:=hy;have db:t1=t:=db;have dD:g1=g:=dD;have dK:d1=d:=dK;subst db dD dK;have hA:0<=i:=hA;have eA:i+k=t1.length:=eA;unfold R3;refine aa.ite (fun hc=>?_) fun _=>aa.ret trivial
  have hc:i<(t1.length:Int):=of_decide_eq_true hc;have hw:IntKind.i64.wrap (i+1)=i+1:=cM (by omega) (by omega)
  obtain⟨x,aD,aF⟩:=mA (xs:=t1) hA hc;have piece:aa (yl ((t1,(g1,(d1,(i,())))),())) (fun r=>r.1.1=t1/\r.1.2.1=g1/\r.1.2.2.1=d1/\r.1.2.2.2.1=i):=by
   unfold yl;refine aa.eq aD ?_
   refine aa.bind (afF ((d1,(x.path,())),()) (by show d1.length<=2097152;omega)) fun r _=>?_
   refine aa.ite (fun _=>?_) fun _=>aa.ret ⟨rfl,rfl,rfl,rfl⟩
   refine aa.eq aD ?_
   exact aa.bind (Od ((g1,(x.path,())),()) hg (Nat.le_trans (lo x aF).1 (by decide)) hn) fun r _=>aa.ret ⟨rfl,rfl,rfl,rfl⟩
  refine aa.bind piece fun r hr=>?_
  obtain⟨⟨(Km:List az),(g2:J),(d2:J),(i2:Int),(c:Bool),v⟩,v'⟩:=r;obtain⟨r1,r2,c_,fJ⟩:=hr;have r1:Km=t1:=r1;have r2:g2=g1:=r2;have c_:d2=d1:=c_;have fJ:i2=i:=fJ;subst r1 r2 c_ fJ;refine aa.ite (fun _=>aa.ret trivial) fun _=>?_
  refine aa.ret ⟨k-1,by omega,rfl,rfl,rfl,?_,?_⟩
  ·show 0<=IntKind.i64.wrap (i2+1);rw[hw];omega
  ·show IntKind.i64.wrap (i2+1)+((k-1:Nat):Int)=_;rw[hw];omega
 ·cases r with
  |inl r=>exact aa.ret trivial
  |inr r=>exact aa.ret trivial
theorem aex(a)(aw:iA a.1.1)(hg:a.1.2.1.length<=200)(hn:kn a.1.2.1):aa (f177 a) (fun r=>iA r.2.1):=by
 obtain⟨⟨(t:List az),(g:J),u⟩,bT⟩:=a;obtain⟨mR,lo⟩:=aw;have mR:t.length<=16:=mR;have hg:g.length<=200:=hg;have awi:iu t:=⟨by show t.length<=2097152;omega,fun e he=>⟨Nat.le_trans (lo e he).1 (by decide),Nat.le_trans (lo e he).2 (by decide)⟩⟩
 unfold f177;refine aa.bind (P:=fun r=>iA r.2.1) ?_ fun r hr=>aa.ret hr
 refine aa.loop (fun(k:Nat) y=>y.1.1=t/\y.1.2.1=g/\(0:Int)<=y.1.2.2.2.1/\(y.1.2.2.2.1:Int)+k=t.length/\((y.2.1:List az).length:Int)<=y.1.2.2.2.1/\∀e,e∈(y.2.1:List az)->lr e) (fun k y hy=>?_) t.length _
  ⟨rfl,rfl,Int.le_refl _,by show(0:Int)+_=_;omega,by show(0:Int)<=0;omega,fun e he=>by cases he⟩
 obtain⟨⟨(t1:List az),(g1:J),u1,(i:Int),u⟩,(out:List az),bT⟩:=y;obtain⟨db,dD,dK,hA,eA,eL⟩:=hy;have db:t1=t:=db;have dD:g1=g:=dD;subst db dD;have dK:0<=i:=dK;have hA:i+k=t1.length:=hA;have eA:(out.length:Int)<=i:=eA;unfold R4;refine aa.ite (fun hc=>?_) fun _=>aa.ret ⟨by show out.length<=16;omega,eL⟩
 have hc:i<(t1.length:Int):=of_decide_eq_true hc;have hw:IntKind.i64.wrap (i+1)=i+1:=cM (by omega) (by omega)
 obtain⟨x,aD,aF⟩:=mA (xs:=t1) dK hc;refine aa.eq (EM ((t1,()),()) awi) ?_
 refine aa.ite (fun _=>?_) fun _=>aa.ret ⟨by show out.length<=16;omega,eL⟩
 have piece:aa (xF ((t1,(g1,((),(i,())))),(out,()))) (fun r=>r.1.1=t1/\r.1.2.1=g1/\r.1.2.2.2.1=i/\r.2.1=out):=by
  unfold xF;refine aa.eq aD ?_
  refine aa.bind (Od ((g1,(x.path,())),()) hg (Nat.le_trans (lo x aF).1 (by decide)) hn) fun r _=>?_
  refine aa.ite (fun _=>?_) fun _=>aa.ret ⟨rfl,rfl,rfl,rfl⟩
  refine aa.eq aD ?_
  refine aa.ite (fun _=>?_) fun _=>aa.ret ⟨rfl,rfl,rfl,rfl⟩
  refine aa.eq aD ?_
  exact aa.bind (aes ((t1,(g1,(x.path,()))),()) ⟨mR,lo⟩ hg hn (lo x aF).1) fun r _=>aa.ret ⟨rfl,rfl,rfl,rfl⟩
 refine aa.bind piece fun r hr=>?_
 obtain⟨⟨(Km:List az),(g2:J),bB,(i2:Int),(c:Bool),v⟩,(BD:List az),v'⟩:=r;obtain⟨r1,r2,c_,fJ⟩:=hr;have r1:Km=t1:=r1;have r2:g2=g1:=r2;have c_:i2=i:=c_;have fJ:BD=out:=fJ;subst r1 r2 c_ fJ;refine aa.ite (fun _=>?_) fun _=>?_
 ·refine aa.eq aD ?_
  refine aa.eq (dt (by decide) (by unfold ax;simp;omega)) ?_
  refine aa.ret ⟨k-1,by omega,rfl,rfl,?_,?_,?_,fun e he=>?_⟩
  ·show 0<=IntKind.i64.wrap (i2+1);rw[hw];omega
  ·show IntKind.i64.wrap (i2+1)+((k-1:Nat):Int)=_;rw[hw];omega
  ·show((BD++[x]).length:Int)<=IntKind.i64.wrap (i2+1);rw[hw];simp;omega
  ·have he:e∈BD++[x]:=he;rcases List.mem_append.1 he with he|he
   ·exact eL e he
   ·rw[List.mem_singleton.1 he];exact lo x aF
 ·refine aa.ret ⟨k-1,by omega,rfl,rfl,?_,?_,?_,eL⟩
  ·show 0<=IntKind.i64.wrap (i2+1);rw[hw];omega
  ·show IntKind.i64.wrap (i2+1)+((k-1:Nat):Int)=_;rw[hw];omega
  ·show(BD.length:Int)<=IntKind.i64.wrap (i2+1);rw[hw];omega
theorem anj:∀(n:Nat) (x:Int),0<=x->x<=100000->x<n->aa (jk lh n ((x,()),())) (fun r=>((r.1.1:J).length:Int)<=x+1):=by
 intro n;induction n with
 |zero=>intro x h0 _ h;omega
 |succ n ih=>
  intro x h0 h1 hl;show aa (lh (jk lh n) _) _;unfold lh;refine aa.ite (fun hc=>?_) fun _=>?_
  ·have hc:x< -9223372036854775807:=of_decide_eq_true hc;omega
  refine aa.ite (fun hc=>?_) fun _=>?_
  ·have hc:x<0:=of_decide_eq_true hc;omega
  refine aa.ite (fun hc=>?_) fun hc=>?_
  ·exact aa.ret (by show((strOf [_]).length:Int)<=x+1;simp[strOf];omega)
  ·have hc:¬x<10:=of_decide_eq_false hc;refine aa.eq (uy (x:=x) rfl h0 (by omega) (by decide)) ?_
   refine aa.bind (ih (x/10) (by omega) (by omega) (by omega)) fun r hr=>?_
   refine aa.eq (nx (x:=x) h0 (by decide)) ?_
   have hr:((r.1.1:J).length:Int)<=x/10+1:=hr;refine aa.eq (dA (s:=r.1.1) (by simp[strOf];omega)) ?_
   exact aa.ret (by show(((r.1.1:J)++strOf [_]).length:Int)<=x+1;rw[List.length_append];simp[strOf];omega)
theorem ahE(a)(h0:(0:Int)<=a.1.1)(h1:(a.1.1:Int)<=100):aa (f83 a) (fun r=>(r.1.1:J).length<=101):=by
 obtain⟨⟨(x:Int),u⟩,bT⟩:=a;have h0:0<=x:=h0;have h1:x<=100:=h1;exact(anj jQ x h0 (by omega) (by unfold jQ;omega)).mono fun r hr=>by have hr:((r.1.1:J).length:Int)<=x+1:=hr;omega
theorem N_(a)(m:Nat)(h:cQ a.2.1.1 a.2.1.2.1 m)(hm:40<=m):aa (uG a) (fun r=>cQ r.2.1.1 r.2.1.2.1 (m-40)/\iA r.2.2.1):=by
 obtain⟨⟨u1,u2⟩,⟨⟨(b:List Int),(p:Int),C0⟩,ayF⟩⟩:=a;have h:cQ b p m:=h;unfold uG;refine aa.bind (P:=fun r=>cQ r.2.1.1 r.2.1.2.1 (m-5)/\iA r.2.2.1) ?_ fun r1 h1=>?_
 ·refine aa.loop (fun(k:Nat) y=>k<=5/\(0:Int)<=y.1.2.2.2.1/\(y.1.2.2.2.1:Int)+k=5/\(y.2.2.2.1:List J)=[[97],[108,105,98],[98,105,110],[100,111,99],[97,47,98]]/\cQ y.2.1.1 y.2.1.2.1 (m-(5-k))/\iA y.2.2.1) (fun k y hy=>?_) 5 _
   ⟨Nat.le_refl _,Int.le_refl _,by show(0:Int)+(5:Nat)=5;rfl,rfl,h,by show(0:Nat)<=16;decide,fun e he=>by cases he⟩
  obtain⟨⟨bB,w2,ef,(i:Int),lu⟩,⟨⟨(bG:List Int),(j5:Int),qS⟩,(t:List az),(L:List J),n7⟩⟩:=y;obtain⟨db,dD,dK,hA,eA,eL⟩:=hy;have dD:0<=i:=dD;have dK:i+k=5:=dK;have hA:L=_:=hA;have dG:L.length=5:=by rw[hA];rfl
  have awp:∀s,s∈L->da s:=by rw[hA];exact fun s hs=>pU (by rfl) hs
  have eA:cQ bG j5 (m-(5-k)):=eA;have eL:iA t:=eL;unfold NT;refine aa.ite (fun hc=>?_) fun hc=>?_
  ·have hc:i<(L.length:Int):=of_decide_eq_true hc;have hw:IntKind.i64.wrap (i+1)=i+1:=cM (by omega) (by omega)
   obtain⟨j,rfl⟩:=Int.eq_ofNat_of_zero_le dD;have hj:j<L.length:=by omega
   refine aa.bind (hK _ _ eA (by omega)) fun r hr=>?_
   have hR:cQ r.2.1.1 r.2.1.2.1 (m-(5-(k-1))):=hr.1.less (by omega)
   refine aa.ite (fun _=>?_) fun _=>?_
   ·refine aa.eq (fO hj) ?_
    refine aa.eq (List.getElem?_eq_getElem hj) ?_
    have hsh:da L[j]:=awp _ (List.getElem_mem hj);refine aa.bind (FQ ((t,((L[j],((1:Int),((7:Int),(([]:J),())))),())),()) eL ⟨hsh,by show(0:Nat)<=200;decide⟩) fun r2 h2=>?_
    refine aa.ret ⟨k-1,by omega,by omega,?_,?_,hA,hR,h2⟩
    ·show 0<=IntKind.i64.wrap ((j:Int)+1);rw[hw];omega
    ·show IntKind.i64.wrap ((j:Int)+1)+((k-1:Nat):Int)=5;rw[hw];omega
   ·refine aa.ret ⟨k-1,by omega,by omega,?_,?_,hA,hR,eL⟩
    ·show 0<=IntKind.i64.wrap ((j:Int)+1);rw[hw];omega
    ·show IntKind.i64.wrap ((j:Int)+1)+((k-1:Nat):Int)=5;rw[hw];omega
  ·exact aa.ret ⟨eA.less (by omega),eL⟩
 refine aa.bind (hK _ _ h1.1 (by omega)) fun r2 h2=>?_
 obtain⟨⟨v1,(q:Int),v2⟩,⟨⟨(b1:List Int),(ja:Int),v3⟩,v4⟩⟩:=r2;have aAv:q<7:=h2.2.2 (by show(1:Int)<=7;decide)
 have aAw:0<=q:=h2.2.1;refine aa.bind (P:=fun r=>cQ r.2.1.1 r.2.1.2.1 (m-34)/\iA r.2.2.1) ?_ fun c_ h3=>?_
 ·refine aa.loop (fun(k:Nat) y=>k<=6/\(y.1.2.2.1:Int)=k/\cQ y.2.1.1 y.2.1.2.1 (m-34+4*k)/\iA y.2.2.1) (fun k y hy=>?_) q.toNat _
   ⟨by omega,by show q=_;omega,(by refine h2.1.less ?_;omega),h1.2⟩
  obtain⟨⟨bB,w2,(i:Int),lu⟩,⟨⟨(bG:List Int),(j5:Int),qS⟩,(t:List az),n7⟩⟩:=y;obtain⟨db,dK,eA,eL⟩:=hy;have dK:i=k:=dK;subst dK;have eA:cQ bG j5 (m-34+4*k):=eA;have eL:iA t:=eL;unfold NS;refine aa.ite (fun hc=>?_) fun hc=>?_
  ·have hc:(k:Int)>0:=of_decide_eq_true hc;have hw:IntKind.i64.wrap ((k:Int)-1)=((k-1:Nat):Int):=by rw[cM (by omega) (by omega)];omega
   refine aa.bind (Nu _ _ eA (by omega)) fun r hr=>?_
   refine aa.bind (FQ ((t,((r.2.2.1.1,(r.2.2.1.2.1,(r.2.2.1.2.2.1,(r.2.2.1.2.2.2.1,())))),())),()) eL hr.2) fun r2 h2=>?_
   exact aa.ret ⟨k-1,by omega,by omega,hw,hr.1.less (by omega),h2⟩
  ·exact aa.ret ⟨eA.less (by omega),eL⟩
 refine aa.bind (hK _ _ h3.1 (by omega)) fun fJ aE=>?_
 refine aa.ite (fun _=>?_) fun _=>aa.ret ⟨aE.1.less (by omega),h3.2⟩
 refine aa.bind (P:=fun r=>cQ r.2.1.1 r.2.1.2.1 (m-34-1)/\iA r.2.2.1) ?_ fun r5 bi=>aa.ret ⟨bi.1.less (by omega),bi.2⟩
 refine aa.loop (fun(k:Nat) y=>(0:Int)<=y.1.2.2.1/\(y.1.2.2.1:Int)+k=16/\cQ y.2.1.1 y.2.1.2.1 (m-34-1)/\iA y.2.2.1) (fun k y hy=>?_) 16 _ ⟨Int.le_refl _,by show(0:Int)+(16:Nat)=16;rfl,aE.1,h3.2⟩
 obtain⟨⟨bB,w2,(i:Int),lu⟩,⟨⟨(bG:List Int),(j5:Int),qS⟩,(t:List az),n7⟩⟩:=y;obtain⟨db,dK,eA,eL⟩:=hy;have db:0<=i:=db;have dK:i+k=16:=dK;have eL:iA t:=eL;unfold Ni;refine aa.ite (fun hc=>?_) fun hc=>aa.ret ⟨eA,eL⟩
 have hc:i<16:=of_decide_eq_true hc;have hw:IntKind.i64.wrap (i+1)=i+1:=cM (by omega) (by omega)
 refine aa.bind (ahE ((i,()),()) db (by show i<=100;omega)) fun r hr=>?_
 have hr:(r.1.1:J).length<=101:=hr;refine aa.eq (dA (s:=[102]) (t:=r.1.1) (by show 1+_<=_;omega)) ?_
 refine aa.bind (FQ ((t,(((([102]:J)++r.1.1,((2:Int),((0:Int),(([]:J),()))))),())),()) eL ⟨by show((([102]:J)++r.1.1).length)<=200;simp;omega,by show(0:Nat)<=200;decide⟩) fun r2 h2=>?_
 refine aa.ret ⟨k-1,by omega,?_,?_,eA,h2⟩
 ·show 0<=IntKind.i64.wrap (i+1);rw[hw];omega
 ·show IntKind.i64.wrap (i+1)+((k-1:Nat):Int)=16;rw[hw];omega
noncomputable abbrev anF:a7:=[(78,jp),(79,k6),(176,A0)]
theorem anY:aQ O (aY ad anF):=aV ⟨jN,lL,Hy,⟨⟩⟩
abbrev Tz:Shape:=⟨[au 0 500000 0],[ar 500000 [bl .u8,aX]],17⟩
abbrev S5:Shape:=⟨[au 0 500000 0,au 2 2 0],[ar 500000 [bl .u8,aX],ar 2 [ah,aX,ah]],17⟩
noncomputable def r_(a:Tz.F):Option S5.F:=
(jn (((),([([111,110,101]:J),([116,119,111]:J),([116,104,114,101,101]:J),([122,105,112]:J)]:List J),()),(a.2.1.1,a.2.1.2.1,()),())).bind fun b=>
(gn (((),(4:Int),()),(b.2.1.1,b.2.1.2.1,()),())).bind fun c=>
 bif(c.1.2.1 !=(0:Int)) then
(r6 (((),()),(c.2.1.1,c.2.1.2.1,()),())).bind fun d=>
 some (((),(),()),(d.2.1.1,d.2.1.2.1,()),(b.1.2.1,c.1.2.1,d.1.2.1,()),())
else
 some (((),(),()),(c.2.1.1,c.2.1.2.1,()),(b.1.2.1,c.1.2.1,([]:J),()),())
noncomputable def A1:aB:=aG ad Tryz.f157 Tz S5 [0] r_
theorem Hz:ay O 157 A1:=aJ anY Tryz.func157 (by kernel_rfl) af (fun y=>by kernel_rfl) fun a=>by kernel_rfl
noncomputable abbrev anL:a7:=[(78,jp),(79,k6),(157,A1),(176,A0),(177,YH),(178,Ir)]
theorem an3:aQ O (aY ad anL):=aV ⟨jN,lL,Hz,Hy,ap6,Sh,⟨⟩⟩
abbrev TG:Shape:=⟨[au 0 500000 0,ak 1],[ar 500000 [bl .u8,aX]],27⟩
abbrev Ta:Shape:=⟨[au 0 500000 0,au 4 4 0],[ar 500000 [bl .u8,aX],bm 5000258 .need 4 2,bm 5000259 .entry 4 3,ar 4 [ah,ah,.own 5000258,.own 5000259]],27⟩
noncomputable def uI(a:TG.F):Option Ta.F:=
(r6 (((),()),(a.2.1.1,a.2.1.2.1,()),())).bind fun b=>
(uG (((),()),(b.2.1.1,b.2.1.2.1,()),())).bind fun c=>
(jn (((),([([42,42]:J),([97,47,42,42]:J),([108,105,98,47,42,42]:J),([100,111,99,47,42,42]:J),([98,42]:J)]:List J),()),(c.2.1.1,c.2.1.2.1,()),())).bind fun d=>
(f177 ((c.2.2.1,d.1.2.1,()),())).bind fun e=>
(gn (((),(3:Int),()),(d.2.1.1,d.2.1.2.1,()),())).bind fun f=>
 bif(f.1.2.1==(0:Int)) then
(r_ (((),()),(f.2.1.1,f.2.1.2.1,()),())).bind fun g=>
(cj 40 ([]:List bQ) ([(bQ.mk g.2.2.1.1 g.2.2.1.2.1 g.2.2.1.2.2.1)]:List bQ)).bind fun h=>
 some (((),(),()),(g.2.1.1,g.2.1.2.1,()),h,e.2.1,(a.1.2.1,b.1.2.1,(),(),()),())
else
 some (((),(),()),(f.2.1.1,f.2.1.2.1,()),([]:List bQ),e.2.1,(a.1.2.1,b.1.2.1,(),(),()),())
noncomputable def It:aB:=aG ad Tryz.f125 TG Ta [0] uI
theorem Sj:ay O 125 It:=aJ an3 Tryz.func125 (by kernel_rfl) af (fun y=>by kernel_rfl) fun a=>by kernel_rfl
noncomputable abbrev anH:a7:=[(78,jp),(79,k6),(176,A0)]
theorem an0:aQ O (aY ad anH):=aV ⟨jN,lL,Hy,⟨⟩⟩
abbrev TB:Shape:=⟨[au 0 500000 0],[ar 500000 [bl .u8,aX]],11⟩
abbrev S7:Shape:=⟨[au 0 500000 0,ak 2],[ar 500000 [bl .u8,aX]],11⟩
noncomputable def uH(a:TB.F):Option S7.F:=
(gn (((),(6:Int),()),(a.2.1.1,a.2.1.2.1,()),())).bind fun b=>
 bif(b.1.2.1==(0:Int)) then
(jn (((),([([]:J),([46]:J),([49,46]:J),([48,49]:J),([49,48,48,48]:J),([49,46,50,46,51,46,52,46,53]:J),([97]:J),([49,46,45,49]:J)]:List J),()),(b.2.1.1,b.2.1.2.1,()),())).bind fun c=>
 some (((),c.1.2.1,()),(c.2.1.1,c.2.1.2.1,()),())
else
(r6 (((),()),(b.2.1.1,b.2.1.2.1,()),())).bind fun d=>
 some (((),d.1.2.1,()),(d.2.1.1,d.2.1.2.1,()),())
noncomputable def Is:aB:=aG ad Tryz.f155 TB S7 [0] uH
theorem Si:ay O 155 Is:=aJ an0 Tryz.func155 (by kernel_rfl) af (fun y=>by kernel_rfl) fun a=>by kernel_rfl
noncomputable abbrev anG:a7:=[(78,jp),(79,k6),(155,Is),(157,A1)]
theorem anZ:aQ O (aY ad anG):=aV ⟨jN,lL,Si,Hz,⟨⟩⟩
abbrev TA:Shape:=⟨[au 0 500000 0],[ar 500000 [bl .u8,aX]],26⟩
abbrev S6:Shape:=⟨[au 0 500000 0,au 2 2 0],[ar 500000 [bl .u8,aX],ar 2 [ah,aX,ah]],26⟩
noncomputable def AS(a:TA.F):Option S6.F:=
(r_ (((),()),(a.2.1.1,a.2.1.2.1,()),())).bind fun b=>
(gn (((),(14:Int),()),(b.2.1.1,b.2.1.2.1,()),())).bind fun c=>
 bif(c.1.2.1==(0:Int)) then
(jn (((),([([]:J),([57]:J),([79,110,101]:J),([101,108,101,118,101,110,108,101,116,116,101]:J)]:List J),()),(c.2.1.1,c.2.1.2.1,()),())).bind fun d=>
 some (((),(),()),(d.2.1.1,d.2.1.2.1,()),(d.1.2.1,b.2.2.1.2.1,b.2.2.1.2.2.1,()),())
else
 bif(c.1.2.1==(1:Int)) then
(gn (((),(6:Int),()),(c.2.1.1,c.2.1.2.1,()),())).bind fun e=>
 some (((),(),()),(e.2.1.1,e.2.1.2.1,()),(b.2.2.1.1,(IntKind.i64.wrap (e.1.2.1-(1:Int))),b.2.2.1.2.2.1,()),())
else
 bif(c.1.2.1==(2:Int)) then
(uH (((),()),(c.2.1.1,c.2.1.2.1,()),())).bind fun f=>
 some (((),(),()),(f.2.1.1,f.2.1.2.1,()),(b.2.2.1.1,b.2.2.1.2.1,f.1.2.1,()),())
else
 some (((),(),()),(c.2.1.1,c.2.1.2.1,()),(b.2.2.1.1,b.2.2.1.2.1,b.2.2.1.2.2.1,()),())
noncomputable def T7:aB:=aG ad Tryz.f156 TA S6 [0] AS
theorem al0:ay O 156 T7:=aJ anZ Tryz.func156 (by kernel_rfl) af (fun y=>by kernel_rfl) fun a=>by kernel_rfl
noncomputable abbrev anu:a7:=[(78,jp),(79,k6),(261,Ip)]
theorem anR:aQ O (aY ad anu):=aV ⟨jN,lL,Sf,⟨⟩⟩
abbrev Tp:Shape:=⟨[au 0 500000 0],[ar 500000 [bl .u8,aX]],11⟩
abbrev SW:Shape:=⟨[au 0 500000 0,ak 2],[ar 500000 [bl .u8,aX]],11⟩
noncomputable def AN(a:Tp.F):Option SW.F:=
(gn (((),(6:Int),()),(a.2.1.1,a.2.1.2.1,()),())).bind fun b=>
 bif(b.1.2.1==(0:Int)) then
(jn (((),([([]:J),([47]:J),([97,47]:J),([47,97]:J),([46]:J),([46,46]:J),([97,47,47,98]:J),([65]:J),([97,47,98,47,99,47,100,47,101,47,102]:J),([101,108,101,118,101,110,108,101,116,116,101]:J),([97,32,98]:J),([120,47,46,46,47,121]:J)]:List J),()),(b.2.1.1,b.2.1.2.1,()),())).bind fun c=>
 some (((),c.1.2.1,()),(c.2.1.1,c.2.1.2.1,()),())
else
(r4 (((),()),(b.2.1.1,b.2.1.2.1,()),())).bind fun d=>
 some (((),d.1.2.1,()),(d.2.1.1,d.2.1.2.1,()),())
noncomputable def T0:aB:=aG ad Tryz.f236 Tp SW [0] AN
theorem alT:ay O 236 T0:=aJ anR Tryz.func236 (by kernel_rfl) af (fun y=>by kernel_rfl) fun a=>by kernel_rfl
noncomputable abbrev anz:a7:=[(77,IP),(78,jp),(79,k6),(224,Iq),(236,T0),(237,JH)]
theorem anT:aQ O (aY ad anz):=aV ⟨Uk,jN,lL,Sg,alT,Vd,⟨⟩⟩
abbrev Tt:Shape:=⟨[au 0 500000 0],[ar 500000 [bl .u8,aX]],32⟩
abbrev SZ:Shape:=⟨[au 0 500000 0,au 2 2 0],[ar 500000 [bl .u8,aX],ar 2 [ah,aX,aX,ah]],32⟩
noncomputable def uF(a:Tt.F):Option SZ.F:=
(uE (((),()),(a.2.1.1,a.2.1.2.1,()),())).bind fun b=>
(gn (((),(14:Int),()),(b.2.1.1,b.2.1.2.1,()),())).bind fun c=>
 bif(c.1.2.1==(0:Int)) then
(AN (((),()),(c.2.1.1,c.2.1.2.1,()),())).bind fun d=>
 some (((),(),()),(d.2.1.1,d.2.1.2.1,()),(d.1.2.1,b.2.2.1.2.1,b.2.2.1.2.2.1,b.2.2.1.2.2.2.1,()),())
else
 bif(c.1.2.1==(1:Int)) then
(gn (((),(5:Int),()),(c.2.1.1,c.2.1.2.1,()),())).bind fun e=>
 some (((),(),()),(e.2.1.1,e.2.1.2.1,()),(b.2.2.1.1,e.1.2.1,b.2.2.1.2.2.1,b.2.2.1.2.2.2.1,()),())
else
 bif(c.1.2.1==(2:Int)) then
(uX (((),([((-1):Int),(8:Int),(0:Int)]:List Int),()),(c.2.1.1,c.2.1.2.1,()),())).bind fun f=>
 some (((),(),()),(f.2.1.1,f.2.1.2.1,()),(b.2.2.1.1,b.2.2.1.2.1,f.1.2.1,b.2.2.1.2.2.2.1,()),())
else
 bif(c.1.2.1==(3:Int)) then
(f237 ((([117]:J),(81:Int),()),())).bind fun g=>
(jn (((),([([1]:J),g.1.1,([120]:J),([]:J)]:List J),()),(c.2.1.1,c.2.1.2.1,()),())).bind fun h=>
 some (((),(),()),(h.2.1.1,h.2.1.2.1,()),(b.2.2.1.1,b.2.2.1.2.1,b.2.2.1.2.2.1,h.1.2.1,()),())
else
 some (((),(),()),(c.2.1.1,c.2.1.2.1,()),(b.2.2.1.1,b.2.2.1.2.1,b.2.2.1.2.2.1,b.2.2.1.2.2.2.1,()),())
noncomputable def T3:aB:=aG ad Tryz.f203 Tt SZ [0] uF
theorem alW:ay O 203 T3:=aJ anT Tryz.func203 (by kernel_rfl) af (fun y=>by kernel_rfl) fun a=>by kernel_rfl
noncomputable abbrev anE:a7:=[(78,jp),(178,Ir),(202,vr),(203,T3)]
theorem anX:aQ O (aY ad anE):=aV ⟨jN,Sh,Bt,alW,⟨⟩⟩
abbrev Ty:Shape:=⟨[au 0 500000 0],[ar 500000 [bl .u8,aX]],30⟩
abbrev S4:Shape:=⟨[au 0 500000 0,a_ 2 3000128],[ar 500000 [bl .u8,aX],a8 3000128 .entry 2 0],30⟩
noncomputable def AR(a:Ty.F):Option S4.F:=
(uG (((),()),(a.2.1.1,a.2.1.2.1,()),())).bind fun b=>
(f202 ((b.2.2.1,()),())).bind fun c=>
(gn (((),(14:Int),()),(b.2.1.1,b.2.1.2.1,()),())).bind fun d=>
 bif(d.1.2.1==(0:Int)) then
(uF (((),()),(d.2.1.1,d.2.1.2.1,()),())).bind fun e=>
(cj 48 c.2.1 ([(az.mk e.2.2.1.1 e.2.2.1.2.1 e.2.2.1.2.2.1 e.2.2.1.2.2.2.1)]:List az)).bind fun f=>
 some (((),(),()),(e.2.1.1,e.2.1.2.1,()),f,())
else
 bif(d.1.2.1==(1:Int)) then
 bif(decide ((c.2.1.length:Int)>(0:Int))) then
(gn (((),(c.2.1.length:Int),()),(d.2.1.1,d.2.1.2.1,()),())).bind fun g=>
(uF (((),()),(g.2.1.1,g.2.1.2.1,()),())).bind fun h=>
(bk c.2.1.length g.1.2.1).bind fun i=>
((c.2.1[i]?).bind fun q=>some (az.mk h.2.2.1.1 h.2.2.1.2.1 h.2.2.1.2.2.1 h.2.2.1.2.2.2.1)).bind fun j=>
 some (((),(),()),(h.2.1.1,h.2.1.2.1,()),(c.2.1.set i j),())
else
 some (((),(),()),(d.2.1.1,d.2.1.2.1,()),c.2.1,())
else
 some (((),(),()),(d.2.1.1,d.2.1.2.1,()),c.2.1,())
noncomputable def T6:aB:=aG ad Tryz.f158 Ty S4 [0] AR
theorem alZ:ay O 158 T6:=aJ anX Tryz.func158 (by kernel_rfl) af (fun y=>by kernel_rfl) fun a=>by kernel_rfl
noncomputable abbrev anM:a7:=[(78,jp),(79,k6),(125,It),(155,Is),(156,T7),(157,A1),(158,T6)]
theorem an4:aQ O (aY ad anM):=aV ⟨jN,lL,Sj,Si,al0,Hz,alZ,⟨⟩⟩
abbrev TI:Shape:=⟨[au 0 500000 0],[ar 500000 [bl .u8,aX]],39⟩
abbrev Tc:Shape:=⟨[au 0 500000 0,au 2 2 0],[ar 500000 [bl .u8,aX],bm 5000130 .need 2 2,bm 5000131 .entry 2 3,ar 2 [ah,ah,.own 5000130,.own 5000131]],39⟩
noncomputable def AT(a:TI.F):Option Tc.F:=
(jn (((),([([111,110,101]:J),([116,119,111]:J),([116,104,114,101,101]:J),([122,105,112]:J)]:List J),()),(a.2.1.1,a.2.1.2.1,()),())).bind fun b=>
(uI (((),b.1.2.1,()),(b.2.1.1,b.2.1.2.1,()),())).bind fun c=>
(gn (((),(14:Int),()),(c.2.1.1,c.2.1.2.1,()),())).bind fun d=>
 bif(d.1.2.1==(0:Int)) then
(jn (((),([([]:J),([79,110,101]:J)]:List J),()),(d.2.1.1,d.2.1.2.1,()),())).bind fun e=>
 some (((),(),()),(e.2.1.1,e.2.1.2.1,()),c.2.2.1,c.2.2.2.1,(e.1.2.1,c.2.2.2.2.1.2.1,(),(),()),())
else
 bif(d.1.2.1==(1:Int)) then
(uH (((),()),(d.2.1.1,d.2.1.2.1,()),())).bind fun f=>
 some (((),(),()),(f.2.1.1,f.2.1.2.1,()),c.2.2.1,c.2.2.2.1,(c.2.2.2.2.1.1,f.1.2.1,(),(),()),())
else
 bif(d.1.2.1==(2:Int)) then
(AS (((),()),(d.2.1.1,d.2.1.2.1,()),())).bind fun g=>
(r_ (((),()),(g.2.1.1,g.2.1.2.1,()),())).bind fun h=>
(cj 40 c.2.2.1 ([(bQ.mk g.2.2.1.1 g.2.2.1.2.1 g.2.2.1.2.2.1),(bQ.mk h.2.2.1.1 h.2.2.1.2.1 h.2.2.1.2.2.1)]:List bQ)).bind fun i=>
 some (((),(),()),(h.2.1.1,h.2.1.2.1,()),i,c.2.2.2.1,(c.2.2.2.2.1.1,c.2.2.2.2.1.2.1,(),(),()),())
else
 bif(d.1.2.1==(3:Int)) then
(AR (((),()),(d.2.1.1,d.2.1.2.1,()),())).bind fun j=>
 some (((),(),()),(j.2.1.1,j.2.1.2.1,()),c.2.2.1,j.2.2.1,(c.2.2.2.2.1.1,c.2.2.2.2.1.2.1,(),(),()),())
else
 some (((),(),()),(d.2.1.1,d.2.1.2.1,()),c.2.2.1,c.2.2.2.1,(c.2.2.2.2.1.1,c.2.2.2.2.1.2.1,(),(),()),())
noncomputable def Ub:aB:=aG ad Tryz.f108 TI Tc [0] AT
theorem al6:ay O 108 Ub:=aJ an4 Tryz.func108 (by kernel_rfl) af (fun y=>by kernel_rfl) fun a=>by kernel_rfl
abbrev wu(p:aS):Prop:=jB p/\p.bf.length<=2097151/\∀n,n∈p.bj->n.bf.length<=2097151
abbrev n5(k:Nat)(ps:List aS):Prop:=ps.length<=k/\∀p,p∈ps->wu p
theorem n5.C9{k:Nat}{ps:List aS}(h:n5 k ps)(hk:k<=2097152):fj ps:=⟨Nat.le_trans h.1 hk,fun p hp=>(h.2 p hp).1⟩
theorem n5.vs{k:Nat}{ps:List aS}(h:n5 k ps):j7 ps:=fun p hp=>(h.2 p hp).2
abbrev Lp(n:bQ):Prop:=da n.name/\da n.bf
def UE(s:J):Bool:=!(s==[102,114,101,115,104])&&!(s==[110,111,98,111,100,121,115])
abbrev LC(s:J):Prop:=da s/\UE s=true
theorem HW{L:List J}(h:L.all (fun s=>decide (s.length<=200)&&UE s)=true){s:J}(hs:s∈L):LC s:=by
 have:=List.all_eq_true.1 h s hs;simp only[Bool.and_eq_true,decide_eq_true_eq] at this;exact this
abbrev tq(p:aS):Prop:=LC p.name/\da p.bf/\(p.bj.length<=3/\∀n,n∈p.bj->Lp n)/\(p.bH.length<=17/\∀e,e∈p.bH->lr e)
theorem tq.ok{p:aS}(h:tq p):wu p:=by
 obtain⟨a,b,⟨c1,c2⟩,d1,d2⟩:=h;have up:∀{s:J},da s->b9 s.length:=fun h=>Nat.le_trans h (by decide)
 exact⟨⟨up a.1,up b,⟨Nat.le_trans c1 (by decide),fun n hn=>⟨up (c2 n hn).1,up (c2 n hn).2⟩⟩,Nat.le_trans d1 (by decide),fun e he=>⟨up (d2 e he).1,up (d2 e he).2⟩⟩,Nat.le_trans b (by decide),fun n hn=>Nat.le_trans (c2 n hn).2 (by decide)⟩
theorem DZ(a)(m:Nat)(h:cQ a.2.1.1 a.2.1.2.1 m)(hm:3<=m):aa (r_ a) (fun r=>cQ r.2.1.1 r.2.1.2.1 (m-3)/\Lp ⟨r.2.2.1.1,r.2.2.1.2.1,r.2.2.1.2.2.1⟩):=by
 unfold r_;refine aa.bind (k_ _ m h (by omega) (by simp)) fun r1 h1=>?_
 have s1:da r1.1.2.1:=pU (by rfl) h1.2
 refine aa.bind (hK _ _ h1.1 (by omega)) fun r2 h2=>?_
 refine aa.ite (fun _=>?_) fun _=>aa.ret ⟨h2.1.less (by omega),s1,by show(0:Nat)<=200;decide⟩
 exact aa.bind (Dl _ _ h2.1 (by omega)) fun c_ h3=>aa.ret ⟨h3.1.less (by omega),s1,h3.2⟩
theorem N'(a)(m:Nat)(h:cQ a.2.1.1 a.2.1.2.1 m)(hm:50<=m)(hn:LC a.1.2.1):aa (uI a) (fun r=>cQ r.2.1.1 r.2.1.2.1 (m-50)/\tq ⟨r.2.2.2.2.1.1,r.2.2.2.2.1.2.1,r.2.2.1,r.2.2.2.1⟩/\(r.2.2.1:List bQ).length<=1):=by
 unfold uI;refine aa.bind (Dl _ m h (by omega)) fun r1 h1=>?_
 refine aa.bind (N_ _ _ h1.1 (by omega)) fun r2 h2=>?_
 refine aa.bind (k_ _ _ h2.1 (by omega) (by simp)) fun c_ h3=>?_
 have hg:(c_.1.2.1:J).length<=200/\kn c_.1.2.1:=by
  have:=h3.2;simp only[List.mem_cons,List.not_mem_nil,or_false] at this;rcases this with e|e|e|e|e
  all_goals(rw[e];exact⟨by decide,by decide⟩)
 refine aa.bind (aex ((r2.2.2.1,(c_.1.2.1,())),()) h2.2 hg.1 hg.2) fun fJ aE=>?_
 refine aa.bind (hK _ _ h3.1 (by omega)) fun r5 bi=>?_
 have aw:(fJ.2.1:List az).length<=17/\∀e,e∈(fJ.2.1:List az)->lr e:=⟨Nat.le_succ_of_le aE.1,aE.2⟩;refine aa.ite (fun _=>?_) fun _=>aa.ret ⟨bi.1.less (by omega),⟨hn,h1.2,⟨by show(0:Nat)<=3;decide,fun n hn=>by cases hn⟩,aw⟩,by show(0:Nat)<=1;decide⟩
 refine aa.bind (DZ _ _ bi.1 (by omega)) fun qX ca=>?_
 refine aa.eq (dt (by decide) (by unfold ax;simp)) ?_
 refine aa.ret ⟨ca.1.less (by omega),⟨hn,h1.2,⟨by show(1:Nat)<=3;decide,fun n hn=>?_⟩,aw⟩,by show(1:Nat)<=1;decide⟩
 have hn:n∈([]:List bQ)++[_]:=hn;rw[List.nil_append,List.mem_singleton] at hn;rw[hn];exact ca.2
theorem Mw(a)(m:Nat)(h:cQ a.2.1.1 a.2.1.2.1 m)(hm:2<=m):aa (uH a) (fun r=>cQ r.2.1.1 r.2.1.2.1 (m-2)/\da r.1.2.1):=by
 unfold uH;refine aa.bind (hK _ m h (by omega)) fun r1 h1=>?_
 refine aa.ite (fun _=>?_) fun _=>?_
 ·exact aa.bind (k_ _ _ h1.1 (by omega) (by simp)) fun r hr=>aa.ret ⟨hr.1.less (by omega),pU (by rfl) hr.2⟩
 ·exact aa.bind (Dl _ _ h1.1 (by omega)) fun r hr=>aa.ret ⟨hr.1.less (by omega),hr.2⟩
theorem acS(a)(m:Nat)(h:cQ a.2.1.1 a.2.1.2.1 m)(hm:2<=m):aa (AN a) (fun r=>cQ r.2.1.1 r.2.1.2.1 (m-2)/\da r.1.2.1):=by
 unfold AN;refine aa.bind (hK _ m h (by omega)) fun r1 h1=>?_
 refine aa.ite (fun _=>?_) fun _=>?_
 ·exact aa.bind (k_ _ _ h1.1 (by omega) (by simp)) fun r hr=>aa.ret ⟨hr.1.less (by omega),pU (by rfl) hr.2⟩
 ·exact aa.bind (DY _ _ h1.1 (by omega)) fun r hr=>aa.ret ⟨hr.1.less (by omega),hr.2⟩
theorem acU(a)(m:Nat)(h:cQ a.2.1.1 a.2.1.2.1 m)(hm:7<=m):aa (AS a) (fun r=>cQ r.2.1.1 r.2.1.2.1 (m-7)/\Lp ⟨r.2.2.1.1,r.2.2.1.2.1,r.2.2.1.2.2.1⟩):=by
 unfold AS;refine aa.bind (DZ _ m h (by omega)) fun r1 h1=>?_
 refine aa.bind (hK _ _ h1.1 (by omega)) fun r2 h2=>?_
 refine aa.ite (fun _=>?_) fun _=>aa.ite (fun _=>?_) fun _=>aa.ite (fun _=>?_) fun _=>?_
 ·exact aa.bind (k_ _ _ h2.1 (by omega) (by simp)) fun r hr=>aa.ret ⟨hr.1.less (by omega),pU (by rfl) hr.2,h1.2.2⟩
 ·exact aa.bind (hK _ _ h2.1 (by omega)) fun r hr=>aa.ret ⟨hr.1.less (by omega),h1.2⟩
 ·exact aa.bind (Mw _ _ h2.1 (by omega)) fun r hr=>aa.ret ⟨hr.1.less (by omega),h1.2.1,hr.2⟩
 ·exact aa.ret ⟨h2.1.less (by omega),h1.2⟩
theorem MC(a)(m:Nat)(h:cQ a.2.1.1 a.2.1.2.1 m)(hm:8<=m):aa (uF a) (fun r=>cQ r.2.1.1 r.2.1.2.1 (m-8)/\lr ⟨r.2.2.1.1,r.2.2.1.2.1,r.2.2.1.2.2.1,r.2.2.1.2.2.2.1⟩):=by
 unfold uF;refine aa.bind (Nu _ m h (by omega)) fun r1 h1=>?_
 refine aa.bind (hK _ _ h1.1 (by omega)) fun r2 h2=>?_
 refine aa.ite (fun _=>?_) fun _=>aa.ite (fun _=>?_) fun _=>aa.ite (fun _=>?_) fun _=>aa.ite (fun _=>?_) fun _=>?_
 ·exact aa.bind (acS _ _ h2.1 (by omega)) fun r hr=>aa.ret ⟨hr.1.less (by omega),hr.2,h1.2.2⟩
 ·exact aa.bind (hK _ _ h2.1 (by omega)) fun r hr=>aa.ret ⟨hr.1.less (by omega),h1.2⟩
 ·exact aa.bind (Um _ _ h2.1 (by omega) (by simp)) fun r hr=>aa.ret ⟨hr.1.less (by omega),h1.2⟩
 ·refine aa.bind (Ps _ (by simp) (by show(0:Int)<=81;decide) (by show(81:Int)<=127;decide)) fun q aC=>?_
  refine aa.bind (k_ _ _ h2.1 (by omega) (by simp)) fun r hr=>aa.ret ⟨hr.1.less (by omega),h1.2.1,?_⟩
  have:=hr.2;simp only[List.mem_cons,List.not_mem_nil,or_false] at this;rcases this with e|e|e|e
  ·show(r.1.2.1:J).length<=200;rw[e];decide
  ·show(r.1.2.1:J).length<=200;rw[e];exact aC
  ·show(r.1.2.1:J).length<=200;rw[e];decide
  ·show(r.1.2.1:J).length<=200;rw[e];decide
 ·exact aa.ret ⟨h2.1.less (by omega),h1.2⟩
abbrev XU(t:List az):Prop:=t.length<=17/\∀e,e∈t->lr e
theorem acQ(a)(m:Nat)(h:cQ a.2.1.1 a.2.1.2.1 m)(hm:50<=m):aa (AR a) (fun r=>cQ r.2.1.1 r.2.1.2.1 (m-50)/\XU r.2.2.1):=by
 unfold AR;refine aa.bind (N_ _ m h (by omega)) fun r1 h1=>?_
 obtain⟨n9,⟨u1,(t:List az),u2⟩⟩:=r1;have aw:iA t:=h1.2;have aAo:=aw.1;refine aa.eq (EJ ((t,()),()) (by show t.length<=2097152;omega)) ?_
 refine aa.bind (hK _ _ h1.1 (by omega)) fun r2 h2=>?_
 have mS:XU t:=⟨Nat.le_succ_of_le aw.1,aw.2⟩;refine aa.ite (fun _=>?_) fun _=>aa.ite (fun _=>?_) fun _=>aa.ret ⟨h2.1.less (by omega),mS⟩
 ·refine aa.bind (MC _ _ h2.1 (by omega)) fun c_ h3=>?_
  refine aa.eq (dt (xs:=t) (by decide) (by unfold ax;simp;omega)) ?_
  refine aa.ret ⟨h3.1.less (by omega),by show(t++[_]).length<=17;simp;omega,fun e he=>?_⟩
  have he:e∈t++[_]:=he;rcases List.mem_append.1 he with he|he
  ·exact aw.2 e he
  ·rw[List.mem_singleton.1 he];exact h3.2
 ·refine aa.ite (fun hc=>?_) fun _=>aa.ret ⟨h2.1.less (by omega),mS⟩
  have hc:(t.length:Int)>0:=of_decide_eq_true hc;refine aa.bind (hK _ _ h2.1 (by omega)) fun c_ h3=>?_
  obtain⟨⟨v1,(q:Int),v2⟩,v3⟩:=c_;have vU:0<=q:=h3.2.1;have aAp:q<(t.length:Int):=h3.2.2 (by show(1:Int)<=(t.length:Int);omega)
  obtain⟨j,rfl⟩:=Int.eq_ofNat_of_zero_le vU;have hj:j<t.length:=by omega
  refine aa.bind (MC _ _ h3.1 (by omega)) fun fJ aE=>?_
  refine aa.eq (fO (n:=t.length) (i:=j) hj) ?_
  refine aa.eq (x:=az.mk fJ.2.2.1.1 fJ.2.2.1.2.1 fJ.2.2.1.2.2.1 fJ.2.2.1.2.2.2.1) (by show(t[j]?).bind _=_;rw[List.getElem?_eq_getElem hj];rfl) ?_
  exact aa.ret ⟨aE.1.less (by omega),by show(t.set _ _).length<=17;rw[List.length_set];omega,Q1 aw.2 aE.2⟩
theorem acT(a)(m:Nat)(h:cQ a.2.1.1 a.2.1.2.1 m)(hm:110<=m):aa (AT a) (fun r=>cQ r.2.1.1 r.2.1.2.1 (m-110)/\tq ⟨r.2.2.2.2.1.1,r.2.2.2.2.1.2.1,r.2.2.1,r.2.2.2.1⟩):=by
 unfold AT;refine aa.bind (k_ _ m h (by omega) (by simp)) fun r1 h1=>?_
 refine aa.bind (N' _ _ h1.1 (by omega) (HW (by rfl) h1.2)) fun r2 h2=>?_
 obtain⟨s_,Cx,vV,nS⟩:=h2.2.1;refine aa.bind (hK _ _ h2.1 (by omega)) fun c_ h3=>?_
 refine aa.ite (fun _=>?_) fun _=>aa.ite (fun _=>?_) fun _=>aa.ite (fun _=>?_) fun _=>aa.ite (fun _=>?_) fun _=>?_
 ·exact aa.bind (k_ _ _ h3.1 (by omega) (by simp)) fun r hr=>aa.ret ⟨hr.1.less (by omega),HW (by rfl) hr.2,Cx,vV,nS⟩
 ·exact aa.bind (Mw _ _ h3.1 (by omega)) fun r hr=>aa.ret ⟨hr.1.less (by omega),s_,hr.2,vV,nS⟩
 ·refine aa.bind (acU _ _ h3.1 (by omega)) fun fJ aE=>?_
  refine aa.bind (DZ _ _ aE.1 (by omega)) fun r5 bi=>?_
  have hl:=h2.2.2;refine aa.eq (dt (xs:=(r2.2.2.1:List bQ)) (by decide) (by unfold ax;simp;omega)) ?_
  refine aa.ret ⟨bi.1.less (by omega),s_,Cx,⟨by show((r2.2.2.1:List bQ)++[_,_]).length<=3;simp;omega,fun n hn=>?_⟩,nS⟩
  have hn:n∈(r2.2.2.1:List bQ)++[_,_]:=hn;rcases List.mem_append.1 hn with hn|hn
  ·exact vV.2 n hn
  ·simp only[List.mem_cons,List.not_mem_nil,or_false] at hn;rcases hn with rfl|rfl
   ·exact aE.2
   ·exact bi.2
 ·exact aa.bind (acQ _ _ h3.1 (by omega)) fun r hr=>aa.ret ⟨hr.1.less (by omega),s_,Cx,vV,hr.2⟩
 ·exact aa.ret ⟨h3.1.less (by omega),s_,Cx,vV,nS⟩
noncomputable abbrev asM:a7:=[(202,vr)]
theorem atM:aQ O (aY ad asM):=aV ⟨Bt,⟨⟩⟩
abbrev i154:Shape:=⟨[b5 0 [ah,ah,bl .need,bl .entry]],[],13⟩
abbrev WI:Shape:=⟨[au 2 2 0],[bm 5000130 .need 2 2,bm 5000131 .entry 2 3,ar 2 [ah,ah,.own 5000130,.own 5000131]],13⟩
noncomputable def f154(a:i154.F):Option WI.F:=
(cj 40 ([]:List bQ) a.1.1.2.2.1).bind fun b=>
(f202 ((a.1.1.2.2.2.1,()),())).bind fun c=>
 some (((),()),b,c.2.1,(a.1.1.1,a.1.1.2.1,(),(),()),())
noncomputable def JT:aB:=aG ad Tryz.f154 i154 WI [] f154
theorem z154:ay O 154 JT:=aJ atM Tryz.func154 (by kernel_rfl) af (fun y=>by kernel_rfl) fun a=>by kernel_rfl
noncomputable abbrev atj:a7:=[(154,JT)]
theorem ZN:aQ O (aY ad atj):=aV ⟨z154,⟨⟩⟩
abbrev zc:Shape:=⟨[au 1 1 0,au 2 2 0,au 3 3 0,ag 4],[ar 1 [bl .pack],bm 5000128 .pack 2 0,ar 2 [.own 5000128],bm 5000192 .pack 3 0,ar 3 [.own 5000192]],25⟩
abbrev Gw:List aO:=[(.exit 0,⟨[au 2 2 0,au 3 3 0],[bm 5000128 .pack 2 0,ar 2 [.own 5000128],bm 5000192 .pack 3 0,ar 3 [.own 5000192]],25⟩)]
noncomputable def zK(y:zc.F):bD zc Gw:=
 bif(decide (y.1.2.2.2.1<(y.2.1.1.length:Int))) then
(aN y.2.1.1 y.1.2.2.2.1).bind fun a=>
(f154 (((a.name,a.bf,a.bj,a.bH,()),()),())).bind fun b=>
(cj 80 y.2.2.2.2.1 ([(aS.mk b.2.2.2.1.1 b.2.2.2.1.2.1 b.2.1 b.2.2.1)]:List aS)).bind fun c=>
 some (.inl (((),(),(),(IntKind.i64.wrap (y.1.2.2.2.1+(1:Int))),()),(y.2.1.1,()),y.2.2.1,((),()),c,((),()),()))
else
 some (.inr (((),(),()),y.2.2.1,((),()),y.2.2.2.2.1,((),()),()))
noncomputable def G8:zc.F->Option (aA Gw):=bo zK
theorem ak3:aT O (an (codeOf Tryz.f107) 1 58) (aU zc Gw G8):=bE ZN (by kernel_rfl) af fun y=>by kernel_rfl
abbrev i107:Shape:=⟨[b5 0 [bl .pack]],[],25⟩
abbrev Xi:Shape:=⟨[au 2 2 0],[bm 5000128 .pack 2 0,ar 2 [.own 5000128]],25⟩
noncomputable def f107(a:i107.F):Option Xi.F:=
(G8 (((),(),(),(0:Int),()),(a.1.1.1,()),([]:List aS),((),()),([]:List aS),((),()),())).bind fun b=>
 some (((),()),b.2.2.2.1,((),()),())
noncomputable def Zl:aB:=aG ad Tryz.f107 i107 Xi [] f107
theorem z107:ay O 107 Zl:=aJ ZN Tryz.func107 (by kernel_rfl) (a6 ak3 af) (fun y=>by kernel_rfl) fun a=>by kernel_rfl
noncomputable abbrev asB:a7:=[(60,Lv)]
theorem atG:aQ O (aY ad asB):=aV ⟨ZV,⟨⟩⟩
abbrev i174:Shape:=⟨[b5 0 [bl .pack],aK 1 .pack],[],15⟩
abbrev Wv:Shape:=⟨[au 4 4 0,ag 5],[ar 4 [bl .pack]],15⟩
noncomputable def f174(a:i174.F):Option Wv.F:=
(f60 ((a.1.2.1,()),())).bind fun b=>
 bif(b.1.1 !=(0:Int)) then
 some (((),b.1.1,()),(a.1.1.1,()),())
else
 some (((),(0:Int),()),(a.1.2.1,()),())
noncomputable def YJ:aB:=aG ad Tryz.f174 i174 Wv [] f174
theorem ap7:ay O 174 YJ:=aJ atG Tryz.func174 (by kernel_rfl) af (fun y=>by kernel_rfl) fun a=>by kernel_rfl
noncomputable abbrev asA:a7:=[(154,JT)]
theorem Zx:aQ O (aY ad asA):=aV ⟨z154,⟨⟩⟩
abbrev yR:Shape:=⟨[aK 0 .pack,au 3 3 0,a_ 4 3000256,ag 5],[ar 3 [ah,ah,bl .need,bl .entry],a8 3000256 .pack 4 0],35⟩
abbrev Gb:List aO:=[(.exit 0,⟨[aK 0 .pack,au 3 3 0,a_ 4 3000256,ag 5],[ar 3 [ah,ah,bl .need,bl .entry],a8 3000256 .pack 4 0],35⟩)]
noncomputable def uo(y:yR.F):bD yR Gb:=
 bif(decide (y.1.2.2.2.1<(y.1.1.length:Int))) then
(aN y.1.1 y.1.2.2.2.1).bind fun a=>
 bif(Op.bytesLess a.name y.2.1.1) then
 some (.inl ((y.1.1,(),(),(IntKind.i64.wrap (y.1.2.2.2.1+(1:Int))),()),(y.2.1.1,y.2.1.2.1,y.2.1.2.2.1,y.2.1.2.2.2.1,()),y.2.2.1,()))
else
 some (.inr ((y.1.1,(),(),y.1.2.2.2.1,()),(y.2.1.1,y.2.1.2.1,y.2.1.2.2.1,y.2.1.2.2.2.1,()),y.2.2.1,()))
else
 some (.inr ((y.1.1,(),(),y.1.2.2.2.1,()),(y.2.1.1,y.2.1.2.1,y.2.1.2.2.1,y.2.1.2.2.2.1,()),y.2.2.1,()))
noncomputable def zh:yR.F->Option (aA Gb):=bo uo
theorem akB:aT O (an (codeOf Tryz.f175) 1 28) (aU yR Gb zh):=bE Zx (by kernel_rfl) af fun y=>by kernel_rfl
abbrev i175:Shape:=⟨[aK 0 .pack,b5 1 [ah,ah,bl .need,bl .entry]],[],35⟩
abbrev Wu:Shape:=⟨[a_ 4 3000256],[a8 3000256 .pack 4 0],35⟩
noncomputable def f175(a:i175.F):Option Wu.F:=
(zh ((a.1.1,(),(),(0:Int),()),(a.1.2.1.1,a.1.2.1.2.1,a.1.2.1.2.2.1,a.1.2.1.2.2.2.1,()),([]:List aS),())).bind fun b=>
(bu b.1.1 (0:Int) b.1.2.2.2.1).bind fun c=>
(cj 80 ([]:List aS) c).bind fun d=>
(f154 (((b.2.1.1,b.2.1.2.1,b.2.1.2.2.1,b.2.1.2.2.2.1,()),()),())).bind fun e=>
(cj 80 d ([(aS.mk e.2.2.2.1.1 e.2.2.2.1.2.1 e.2.1 e.2.2.1)]:List aS)).bind fun f=>
(bu b.1.1 b.1.2.2.2.1 (b.1.1.length:Int)).bind fun g=>
(cj 80 f g).bind fun h=>
 some (((),()),h,())
noncomputable def YI:aB:=aG ad Tryz.f175 i175 Wu [] f175
theorem z175:ay O 175 YI:=aJ Zx Tryz.func175 (by kernel_rfl) (a6 akB af) (fun y=>by kernel_rfl) fun a=>by kernel_rfl
noncomputable abbrev as7:a7:=[(50,CQ),(160,JS),(174,YJ),(175,YI)]
theorem atT:aQ O (aY ad as7):=aV ⟨Kf,z160,ap7,z175,⟨⟩⟩
abbrev i124:Shape:=⟨[b5 0 [bl .pack],b5 1 [ah,ah,bl .need,bl .entry]],[],27⟩
abbrev W7:Shape:=⟨[au 4 4 0,ag 5],[ar 4 [bl .pack]],27⟩
noncomputable def f124(a:i124.F):Option W7.F:=
(f50 (((a.1.2.1.1,a.1.2.1.2.1,a.1.2.1.2.2.1,a.1.2.1.2.2.2.1,()),()),())).bind fun b=>
 bif(!b.1.1) then
 some (((),(1:Int),()),(a.1.1.1,()),())
else
(f160 ((a.1.1.1,a.1.2.1.1,()),())).bind fun c=>
 bif(decide (c.1.1>=(0:Int))) then
 some (((),(2:Int),()),(a.1.1.1,()),())
else
(f175 ((a.1.1.1,(a.1.2.1.1,a.1.2.1.2.1,a.1.2.1.2.2.1,a.1.2.1.2.2.2.1,()),()),())).bind fun d=>
(f174 (((a.1.1.1,()),d.2.1,()),())).bind fun e=>
 some (((),e.1.2.1,()),(e.2.1.1,()),())
noncomputable def Zb:aB:=aG ad Tryz.f124 i124 W7 [] f124
theorem z124:ay O 124 Zb:=aJ atT Tryz.func124 (by kernel_rfl) af (fun y=>by kernel_rfl) fun a=>by kernel_rfl
noncomputable abbrev apg:a7:=[(78,jp),(79,k6),(124,Zb),(125,It)]
theorem U9:aQ O (aY ad apg):=aV ⟨jN,lL,z124,Sj,⟨⟩⟩
abbrev xQ:Shape:=⟨[au 0 500000 0,au 2 2 0,au 3 3 0,ag 4],[ar 500000 [bl .u8,aX],bm 5000128 .pack 2 0,ar 2 [.own 5000128],ar 3 [bl .pack]],23⟩
abbrev EP:List aO:=[(.exit 0,⟨[au 0 500000 0,au 2 2 0,au 3 3 0],[ar 500000 [bl .u8,aX],bm 5000128 .pack 2 0,ar 2 [.own 5000128],ar 3 [bl .pack]],23⟩)]
noncomputable def Qo(y:xQ.F):bD xQ EP:=
 bif(decide (y.1.2.2.2.1>(0:Int))) then
(jn (((),([([111,110,101]:J),([116,119,111]:J),([116,104,114,101,101]:J),([122,105,112]:J)]:List J),()),(y.2.1.1,y.2.1.2.1,()),())).bind fun a=>
(uI (((),a.1.2.1,()),(a.2.1.1,a.2.1.2.1,()),())).bind fun b=>
(f124 (((y.2.2.2.2.1.1,()),(b.2.2.2.2.1.1,b.2.2.2.2.1.2.1,b.2.2.1,b.2.2.2.1,()),()),())).bind fun c=>
 some (.inl (((),(),(),(IntKind.i64.wrap (y.1.2.2.2.1-(1:Int))),()),(b.2.1.1,b.2.1.2.1,()),y.2.2.1,((),()),(c.2.1.1,()),()))
else
 some (.inr (((),(),(),()),(y.2.1.1,y.2.1.2.1,()),y.2.2.1,((),()),(y.2.2.2.2.1.1,()),()))
noncomputable def Qb:xQ.F->Option (aA EP):=bo Qo
theorem aic:aT O (an (codeOf Tryz.f72) 1 58) (aU xQ EP Qb):=bE U9 (by kernel_rfl) af fun y=>by kernel_rfl
abbrev UO:Shape:=⟨[au 0 500000 0],[ar 500000 [bl .u8,aX]],23⟩
abbrev Uz:Shape:=⟨[au 0 500000 0,au 2 2 0],[ar 500000 [bl .u8,aX],ar 2 [bl .pack]],23⟩
noncomputable def Bh(a:UO.F):Option Uz.F:=
(gn (((),(5:Int),()),(a.2.1.1,a.2.1.2.1,()),())).bind fun b=>
(Qb (((),(),(),b.1.2.1,()),(b.2.1.1,b.2.1.2.1,()),([]:List aS),((),()),(([]:List aS),()),())).bind fun c=>
 some (((),(),()),(c.2.1.1,c.2.1.2.1,()),(c.2.2.2.2.1.1,()),())
noncomputable def U6:aB:=aG ad Tryz.f72 UO Uz [0] Bh
theorem aob:ay O 72 U6:=aJ U9 Tryz.func72 (by kernel_rfl) (a6 aic af) (fun y=>by kernel_rfl) fun a=>by kernel_rfl
noncomputable abbrev aph:a7:=[(72,U6),(78,jp),(107,Zl),(108,Ub)]
theorem apl:aQ O (aY ad aph):=aV ⟨aob,jN,z107,al6,⟨⟩⟩
abbrev UQ:Shape:=⟨[au 0 500000 0],[ar 500000 [bl .u8,aX]],29⟩
abbrev UB:Shape:=⟨[au 0 500000 0,au 2 2 0],[ar 500000 [bl .u8,aX],ar 2 [bl .pack]],29⟩
noncomputable def Bi(a:UQ.F):Option UB.F:=
(Bh (((),()),(a.2.1.1,a.2.1.2.1,()),())).bind fun b=>
(f107 (((b.2.2.1.1,()),()),())).bind fun c=>
(gn (((),(12:Int),()),(b.2.1.1,b.2.1.2.1,()),())).bind fun d=>
 bif(d.1.2.1==(0:Int)) then
(AT (((),()),(d.2.1.1,d.2.1.2.1,()),())).bind fun e=>
(cj 80 c.2.1 ([(aS.mk e.2.2.2.2.1.1 e.2.2.2.2.1.2.1 e.2.2.1 e.2.2.2.1)]:List aS)).bind fun f=>
 some (((),(),()),(e.2.1.1,e.2.1.2.1,()),(f,()),())
else
 bif(d.1.2.1==(1:Int)) then
 bif(decide ((c.2.1.length:Int)>(0:Int))) then
(bu c.2.1 (1:Int) (c.2.1.length:Int)).bind fun g=>
 some (((),(),()),(d.2.1.1,d.2.1.2.1,()),(g,()),())
else
 some (((),(),()),(d.2.1.1,d.2.1.2.1,()),(c.2.1,()),())
else
 some (((),(),()),(d.2.1.1,d.2.1.2.1,()),(c.2.1,()),())
noncomputable def U7:aB:=aG ad Tryz.f58 UQ UB [0] Bi
theorem aoc:ay O 58 U7:=aJ apl Tryz.func58 (by kernel_rfl) af (fun y=>by kernel_rfl) fun a=>by kernel_rfl
theorem afx(a)(hb:fj a.1.1)(hv:j7 a.1.1):f60 a=some ((jo a.1.1,()),()):=by
 obtain⟨⟨ps,u⟩,bT⟩:=a;have hl:ps.length<=2097152:=hb.1;have key:Ar ((ps,((0:Int),())),())=some (bif allI (sY ps) 0 ps then .inr ((ps,()),()) else .inl (((1:Int),()),())):=by
  refine fy pW ps (fun i=>((ps,((i:Int),())),())) _ _ _ (fun i x hx=>?_) ?_
  ·have hi:=cD hx;have hw:ax i:=by unfold ax;omega
   have pc:=hb.2 x (List.mem_of_getElem? hx);simp only[pW,cq hi,cond_true,zn,bY,hx,Option.bind_some];rw[EO _ pc];simp only[Option.bind_some,sY,BP];cases ct x with
   |false=>rfl
   |true=>
    simp only[Bool.not_true,cond_false,Bool.true_and,mz];cases i with
    |zero=>simp only[beq_self_eq_true,Bool.not_true,cond_false,Option.bind_some,Bool.true_or,cond_true,b4 hw]
    |succ i=>
     have h0:(i+1==0)=false:=rfl;have iX:i<ps.length:=by omega
     obtain⟨q,aC⟩:∃q,ps[i]? =some q:=⟨ps[i],List.getElem?_eq_getElem iX⟩;simp only[h0,Bool.not_false,cond_true,tO (i:=i) (by unfold ax;omega),bY,aC,hx,Option.bind_some,Bool.false_or,Nat.add_sub_cancel]
     cases Op.bytesLess q.name x.name with
     |false=>rfl
     |true=>simp only[Bool.not_true,cond_false,cond_true,b4 hw]
  ·simp only[pW,dd,cond_false]
 rw[Rq] at key;have bi:decide ((ps.length:Int)>5)=!decide (ps.length<=5):=by by_cases h:ps.length<=5<;>simp only[h,decide_true,decide_false,Bool.not_true,Bool.not_false,decide_eq_true_eq,decide_eq_false_iff_not]<;>omega
 simp only[f60,key,Option.bind_some,jo];cases dH:(ps.all ct&&km ps) with
 |false=>rfl
 |true=>
  have hk:ps.all ct=true:=by simp only[Bool.and_eq_true] at dH;exact dH.1
  obtain⟨out,aw⟩:=Po ((ps,()),()) hb hk;have hn:=N7 ((ps,()),()) hb hv;simp only[cond_true,Option.bind_some,aw,bi];cases decide (ps.length<=5) with
  |false=>rfl
  |true=>
   simp only[Bool.not_true,cond_false,hn,Option.bind_some];cases ps.all (fun p=>p.bj.all (h5 ps))<;>cases (e9 [] ps).isSome<;>rfl
theorem Pp(a)(h:jB ⟨a.1.1.1,a.1.1.2.1,a.1.1.2.2.1,a.1.1.2.2.2.1⟩):f154 a=some (((),()),(a.1.1.2.2.1,(a.1.1.2.2.2.1,((a.1.1.1,(a.1.1.2.1,((),((),())))),())))):=by
 obtain⟨⟨⟨name,bf,bj,bH,u⟩,bT⟩,mL⟩:=a;have h1:bj.length<=2097152:=h.2.2.1.1;have h2:=EJ ((bH,()),()) h.2.2.2.1;simp only[f154,dt (show(40:Nat)<=100 by decide) (show ax (([]:List bQ).length+bj.length) by unfold ax;simp;omega),List.nil_append,Option.bind_some,h2]
def BA(ps:List aS)(n:J):Nat:=(ps.takeWhile fun p=>Op.bytesLess p.name n).length
theorem Rk(ps:List aS)(n:J):BA ps n<=ps.length:=(List.takeWhile_prefix _).length_le
def kW(ps:List aS)(p:aS):List aS:=ps.take (BA ps p.name)++[p]++ps.drop (BA ps p.name)
theorem N5(ps:List aS)(p:aS):(kW ps p).length=ps.length+1:=by
 have:=Rk ps p.name;unfold kW;simp only[List.length_append,List.length_take,List.length_drop,List.length_cons,List.length_nil];omega
theorem N4{ps:List aS}{p x:aS}(h:x∈kW ps p):x=p\/x∈ps:=by
 unfold kW at h;simp only[List.mem_append,List.mem_singleton] at h;rcases h with(h|h)|h
 ·exact .inr (List.mem_of_mem_take h)
 ·exact .inl h
 ·exact .inr (List.mem_of_mem_drop h)
theorem ahp{k:Nat}{ps:List aS}{p:aS}(h:n5 k ps)(hp:wu p):n5 (k+1) (kW ps p):=
 ⟨by rw[N5];exact Nat.succ_le_succ h.1,fun x hx=>by
  rcases N4 hx with rfl|hx
  ·exact hp
  ·exact h.2 x hx⟩
theorem aht(a)(h1:a.1.1.length<=2097151)(hp:jB ⟨a.1.2.1.1,a.1.2.1.2.1,a.1.2.1.2.2.1,a.1.2.1.2.2.2.1⟩):f175 a=some (((),()),(kW a.1.1 ⟨a.1.2.1.1,a.1.2.1.2.1,a.1.2.1.2.2.1,a.1.2.1.2.2.2.1⟩,())):=by
 obtain⟨⟨ps,⟨name,bf,bj,bH,n9⟩,u⟩,bT⟩:=a;have h1:ps.length<=2097151:=h1;have key:∀(r:List aS) (k:Nat),ps.drop k=r->k<=ps.length->zh ((ps,((),((),((k:Int),())))),((name,(bf,(bj,(bH,())))),(([]:List aS),())))=
   some ((ps,((),((),(((k+(r.takeWhile fun p=>Op.bytesLess p.name name).length:Nat):Int),())))),((name,(bf,(bj,(bH,())))),(([]:List aS),()))):=by
  intro r;induction r with
  |nil=>
   intro k hr hk;have:=drop_nil hr;obtain rfl:k=ps.length:=by omega
   refine de ?_
   simp only[uo,dd,cond_false,List.takeWhile_nil,List.length_nil,Nat.add_zero]
  |cons q r ih=>
   intro k hr hk;obtain⟨c1,c2,c3⟩:=drop_cons hr;have hw:ax k:=by unfold ax;omega
   rw[List.takeWhile_cons];cases aC:Op.bytesLess q.name name with
   |false=>
    refine de ?_
    simp only[uo,cq c3,cond_true,bY,c1,Option.bind_some,aC,cond_false];rfl
   |true=>
    have step:uo ((ps,((),((),((k:Int),())))),((name,(bf,(bj,(bH,())))),(([]:List aS),())))=some (.inl ((ps,((),((),(((k+1:Nat):Int),())))),((name,(bf,(bj,(bH,())))),(([]:List aS),())))):=by
     simp only[uo,cq c3,cond_true,bY,c1,Option.bind_some,aC,b4 hw]
    refine Eq.trans (fc step) (Eq.trans (ih (k+1) c2 c3) ?_);simp only[if_true,List.length_cons];have e:k+1+(r.takeWhile fun p=>Op.bytesLess p.name name).length=k+((r.takeWhile fun p=>Op.bytesLess p.name name).length+1):=by omega
    rw[e]
 have key:=key ps 0 rfl (Nat.zero_le _);rw[Nat.zero_add] at key;have hk:(ps.takeWhile fun p=>Op.bytesLess p.name name).length=BA ps name:=rfl
 rw[hk] at key;have key:zh ((ps,((),((),((0:Int),())))),((name,(bf,(bj,(bH,())))),(([]:List aS),())))=_:=key;have hle:=Rk ps name;have e2:=Pp (((name,(bf,(bj,(bH,())))),()),()) hp;simp only[f175,key,Option.bind_some,ii hle,iI hle,e2];rw[dt (show(80:Nat)<=100 by decide) (by unfold ax;simp;omega)]
 simp only[List.nil_append,Option.bind_some];rw[dt (show(80:Nat)<=100 by decide) (by unfold ax;simp;omega)]
 simp only[Option.bind_some];rw[dt (show(80:Nat)<=100 by decide) (by unfold ax;simp;omega)]
 rfl
theorem ajN(a)(hb:fj a.1.2.1)(hv:j7 a.1.2.1):f174 a=some (((),(jo a.1.2.1,())),(((bif jo a.1.2.1==0 then a.1.2.1 else a.1.1.1),()),())):=by
 obtain⟨⟨⟨r,n9⟩,list,u⟩,bT⟩:=a;have e:=afx ((list,()),()) hb hv;simp only[f174,e,Option.bind_some];have z:(jo list !=0)=!(jo list==0):=rfl;rw[z];cases hc:(jo list==0) with
 |false=>rfl
 |true=>
  have hc:jo list=0:=by simpa using hc
  simp only[Bool.not_true,cond_false,cond_true];rw[hc]
def vM(ps:List aS)(p:aS):List aS×Int:=bif ct p then(match ps.find? (fun q=>q.name==p.name) with
 |some _=>(ps,2)
 |none=>(bif jo (kW ps p)==0 then kW ps p else ps,jo (kW ps p))) else(ps,1)
theorem amd(a)(k:Nat)(hk:k<=2000000)(h:n5 k a.1.1.1)(hp:wu ⟨a.1.2.1.1,a.1.2.1.2.1,a.1.2.1.2.2.1,a.1.2.1.2.2.2.1⟩):f124 a=some (((),((vM a.1.1.1 ⟨a.1.2.1.1,a.1.2.1.2.1,a.1.2.1.2.2.1,a.1.2.1.2.2.2.1⟩).2,())),(((vM a.1.1.1 ⟨a.1.2.1.1,a.1.2.1.2.1,a.1.2.1.2.2.1,a.1.2.1.2.2.2.1⟩).1,()),())):=by
 obtain⟨⟨⟨ps,n9⟩,⟨name,bf,bj,bH,u1⟩,u⟩,bT⟩:=a;have h:n5 k ps:=h;have hp:wu ⟨name,bf,bj,bH⟩:=hp;have hl:ps.length<=2000000:=Nat.le_trans h.1 hk;have e1:=EO (((name,(bf,(bj,(bH,())))),()),()) hp.1;simp only[f124,e1,Option.bind_some,vM];cases ct ⟨name,bf,bj,bH⟩ with
 |false=>rfl
 |true=>
  simp only[Bool.not_true,cond_false,cond_true];rcases Pq ((ps,(name,())),()) (show ps.length<=2097152 by omega) with⟨j,q,g1,g2,g3⟩|⟨g1,g2⟩
  ·have g3:ps.find? (fun p=>p.name==name)=some q:=g3
   have hj:decide ((j:Int)>=0)=true:=by simp
   simp only[g1,Option.bind_some,hj,cond_true,g3]
  ·have g2:ps.find? (fun p=>p.name==name)=none:=g2
   have hj:decide ((-1:Int)>=0)=false:=rfl;have hw:=ahp h hp;have e2:=aht ((ps,((name,(bf,(bj,(bH,())))),())),()) (show ps.length<=2097151 by omega) hp.1
   have bv:=ajN (((ps,()),(kW ps ⟨name,bf,bj,bH⟩,())),()) (hw.C9 (by omega)) hw.vs
   simp only[g1,Option.bind_some,hj,cond_false,g2,e2,bv]
theorem ahu(a)(h:fj a.1.1.1):f107 a=some (((),()),(a.1.1.1,(((),()),()))):=by
 obtain⟨⟨⟨ps,n9⟩,u⟩,bT⟩:=a;have hl:ps.length<=2097152:=h.1;have key:=O0 (S:=List aS) zK ps (fun i acc=>(((),((),((),((i:Int),())))),((ps,()),(([]:List aS),(((),()),(acc,(((),()),()))))))) (fun x acc=>acc++[x]) (fun acc=>(((),((),())),(([]:List aS),(((),()),(acc,(((),()),())))))) (fun i acc=>acc.length=i) [] rfl (fun i x acc hx c'=>?_) (fun acc c'=>?_)
 ·have key:G8 (((),((),((),((0:Int),())))),((ps,()),(([]:List aS),(((),()),(([]:List aS),(((),()),()))))))=_:=key;have e:∀(l acc:List aS),l.foldl (fun s x=>s++[x]) acc=acc++l:=by
   intro l;induction l with
   |nil=>intro acc;simp
   |cons x l ih=>intro acc;simp only[List.foldl_cons];rw[ih];simp
  simp only[f107,key,Option.bind_some];rw[e];rfl
 ·have hi:=cD hx;have hw:ax i:=by unfold ax;omega
  have e2:=Pp (((x.name,(x.bf,(x.bj,(x.bH,())))),()),()) (h.2 x (List.mem_of_getElem? hx));have ha:cj 80 acc [x]=some (acc++[x]):=dt (by decide) (by unfold ax;simp;omega)
  simp only[zK,cq hi,cond_true,bY,hx,Option.bind_some,e2,ha,b4 hw];exact⟨trivial,by simp[c']⟩
 ·simp only[zK,dd,cond_false]
abbrev j3(k:Nat)(ps:List aS):Prop:=ps.length<=k/\∀p,p∈ps->tq p
theorem j3.ok{k:Nat}{ps:List aS}(h:j3 k ps):n5 k ps:=⟨h.1,fun p hp=>(h.2 p hp).ok⟩
theorem amY{k:Nat}{ps:List aS}{p:aS}(h:j3 k ps)(hp:tq p):j3 (k+1) (vM ps p).1:=by
 have aj:j3 (k+1) ps:=⟨Nat.le_succ_of_le h.1,h.2⟩;unfold vM;cases ct p with
 |false=>exact aj
 |true=>
  simp only[cond_true];cases ps.find? (fun q=>q.name==p.name) with
  |some q=>exact aj
  |none=>
   simp only;cases jo (kW ps p)==0 with
   |false=>exact aj
   |true=>
    refine⟨by show(kW ps p).length<=k+1;rw[N5];exact Nat.succ_le_succ h.1,fun x hx=>?_⟩
    rcases N4 hx with rfl|hx
    ·exact hp
    ·exact h.2 x hx
theorem afH(a)(m:Nat)(h:cQ a.2.1.1 a.2.1.2.1 m)(hm:300<=m):aa (Bh a) (fun r=>cQ r.2.1.1 r.2.1.2.1 (m-300)/\j3 4 r.2.2.1.1):=by
 unfold Bh;refine aa.bind (hK _ m h (by omega)) fun r1 h1=>?_
 obtain⟨⟨v1,(q:Int),v2⟩,⟨⟨(b1:List Int),(ja:Int),v3⟩,v4⟩⟩:=r1;have hn:q<5:=h1.2.2 (by show(1:Int)<=5;decide)
 have h0:0<=q:=h1.2.1;refine aa.bind (P:=fun r=>cQ r.2.1.1 r.2.1.2.1 (m-300)/\j3 4 r.2.2.2.2.1.1) ?_ fun r hr=>aa.ret hr
 refine aa.loop (fun(k:Nat) y=>k<=4/\(y.1.2.2.2.1:Int)=k/\cQ y.2.1.1 y.2.1.2.1 (m-300+55*k)/\j3 (4-k) y.2.2.2.2.1.1) (fun k y hy=>?_) q.toNat _ ⟨by omega,by show q=_;omega,h1.1.less (by omega),by show(0:Nat)<=_;omega,fun p hp=>by cases hp⟩
 obtain⟨⟨bB,w2,ef,(i:Int),lu⟩,⟨⟨(bG:List Int),(j5:Int),qS⟩,n7,i',⟨(ps:List aS),n6⟩,hC⟩⟩:=y;obtain⟨db,dK,eA,eL⟩:=hy;have dK:i=k:=dK;subst dK;have eA:cQ bG j5 (m-300+55*k):=eA;have eL:j3 (4-k) ps:=eL;unfold Qo;refine aa.ite (fun hc=>?_) fun hc=>aa.ret ⟨eA.less (by omega),Nat.le_trans eL.1 (by omega),eL.2⟩
 have hc:(k:Int)>0:=of_decide_eq_true hc;have hw:IntKind.i64.wrap ((k:Int)-1)=((k-1:Nat):Int):=by rw[cM (by omega) (by omega)];omega
 refine aa.bind (k_ _ _ eA (by omega) (by simp)) fun r2 h2=>?_
 refine aa.bind (N' _ _ h2.1 (by omega) (HW (by rfl) h2.2)) fun c_ h3=>?_
 refine aa.eq (amd (((ps,()),((c_.2.2.2.2.1.1,(c_.2.2.2.2.1.2.1,(c_.2.2.1,(c_.2.2.2.1,())))),())),()) (4-k) (by omega) eL.ok h3.2.1.ok) ?_
 refine aa.ret ⟨k-1,by omega,by omega,hw,h3.1.less (by omega),?_⟩
 have:=amY eL h3.2.1;exact⟨Nat.le_trans this.1 (by omega),this.2⟩
theorem acR(a)(m:Nat)(h:cQ a.2.1.1 a.2.1.2.1 m)(hm:500<=m):aa (Bi a) (fun r=>cQ r.2.1.1 r.2.1.2.1 (m-500)/\j3 5 r.2.2.1.1):=by
 unfold Bi;refine aa.bind (afH _ m h (by omega)) fun r1 h1=>?_
 obtain⟨n9,⟨u1,⟨(ps:List aS),u2⟩,C0⟩⟩:=r1;have hr:j3 4 ps:=h1.2;have qA:=hr.1;refine aa.eq (ahu (((ps,()),()),()) (hr.ok.C9 (by decide))) ?_
 refine aa.bind (hK _ _ h1.1 (by omega)) fun r2 h2=>?_
 have c9:j3 5 ps:=⟨Nat.le_succ_of_le hr.1,hr.2⟩;refine aa.ite (fun _=>?_) fun _=>aa.ite (fun _=>?_) fun _=>aa.ret ⟨h2.1.less (by omega),c9⟩
 ·refine aa.bind (acT _ _ h2.1 (by omega)) fun c_ h3=>?_
  refine aa.eq (dt (xs:=ps) (by decide) (by unfold ax;simp;omega)) ?_
  refine aa.ret ⟨h3.1.less (by omega),by show(ps++[_]).length<=5;simp;omega,fun e he=>?_⟩
  have he:e∈ps++[_]:=he;rcases List.mem_append.1 he with he|he
  ·exact hr.2 e he
  ·rw[List.mem_singleton.1 he];exact h3.2
 ·refine aa.ite (fun hc=>?_) fun _=>aa.ret ⟨h2.1.less (by omega),c9⟩
  have hc:(ps.length:Int)>0:=of_decide_eq_true hc;refine aa.eq (iI (xs:=ps) (a:=1) (by omega)) ?_
  exact aa.ret ⟨h2.1.less (by omega),by show(ps.drop 1).length<=5;rw[List.length_drop];omega,fun e he=>hr.2 e (List.mem_of_mem_drop he)⟩
def sN(t:List az)(p:J):Option az:=match t[bK t p]? with
 |some e=>bif e.path==p then some e else none
 |none=>none
theorem aln{t:List az}{p:J}{e:az}(h:sN t p=some e):t[bK t p]? =some e/\e.path=p:=by
 unfold sN at h;cases aw:t[bK t p]? with
 |none=>rw[aw] at h;cases h
 |some x=>
  rw[aw] at h;cases hx:(x.path==p) with
  |false=>simp[hx] at h
  |true=>simp only[hx,cond_true,Option.some.injEq] at h;subst h;exact⟨rfl,eq_of_beq hx⟩
theorem amS{t:List az}(ha:fm t){k:Nat}{e:az}(h:t[k]? =some e):bK t e.path=k:=by
 have h1:=j9 (p:=e.path) ha k e h;have h2:Op.bytesLess e.path e.path=false:=uJ _;rw[h1] at h2;have h2:¬k<bK t e.path:=of_decide_eq_false h2;rcases Nat.lt_or_ge (bK t e.path) k with h3|h3
 ·exfalso
  have aE:bK t e.path<t.length:=Nat.lt_trans h3 (cD h);have bi:=List.getElem?_eq_getElem aE;have ca:=j9 (p:=e.path) ha (bK t e.path) t[bK t e.path] bi;have hX:Op.bytesLess (t[bK t e.path]).path e.path=true:=by
   have hp:=List.pairwise_iff_getElem.1 ha (bK t e.path) k aE (cD h) h3;have:t[k]'(cD h)=e:=by
    have:=List.getElem?_eq_getElem (cD h);rw[h] at this;exact(Option.some.inj this).symm
   rw[this] at hp;exact hp
  rw[hX] at ca;have:=of_decide_eq_true ca.symm;omega
 ·omega
theorem Qn{t:List az}(ha:fm t){p:J}{e:az}:sN t p=some e <-> e∈t/\e.path=p:=by
 constructor
 ·intro h;obtain⟨h1,h2⟩:=aln h;exact⟨List.mem_of_getElem? h1,h2⟩
 ·rintro⟨h1,rfl⟩;obtain⟨k,hk⟩:=List.mem_iff_getElem?.1 h1;have:=amS ha hk;unfold sN;rw[this,hk];simp
theorem anf{a b:az}(h:j2 a b=true):a=b:=by
 unfold j2 at h;simp only[Bool.and_eq_true,beq_iff_eq] at h;obtain⟨h1,h2,h3,aE⟩:=h;cases a;cases b;simp only at h1 h2 h3 aE;subst h1 h2 h3 aE;rfl
theorem Qh{t:List az}{k:Nat}{e x:az}:x∈jl t k e <-> x=e\/x∈t:=by
 constructor
 ·exact Ev
 ·unfold jl;intro h;rcases h with rfl|h
  ·simp
  ·have:x∈t.take k++t.drop k:=by rw[List.take_append_drop];exact h
   simp only[List.mem_append,List.mem_singleton] at this ⊢;rcases this with h|h
   ·exact .inl (.inl h)
   ·exact .inr h
theorem ahW{out B:List az}{e:az}(h:gZ out e=some B)(x:az):x∈B <-> x=e\/x∈out:=by
 unfold gZ at h;split at h
 ·rename_i q aC;cases hp:(q.path==e.path) with
  |true=>
   rw[hp] at h;cases hc:lZ e q with
   |true=>rw[hc] at h;cases h
   |false=>
    rw[hc] at h;cases h;have:j2 e q=true:=by
     unfold lZ at hc;simp only[Bool.or_eq_false_iff,Bool.not_eq_false'] at hc;exact hc.2
    have:=anf this;subst this;constructor
    ·exact .inr
    ·rintro(rfl|h)
     ·exact List.mem_of_getElem? aC
     ·exact h
  |false=>rw[hp] at h;cases h;exact Qh
 ·cases h;exact Qh
theorem ai0:∀{es out B:List az},gj out es=some B->∀x,x∈B <-> x∈out\/x∈es:=by
 intro es;induction es with
 |nil=>intro out B h x;simp only[gj,Option.some.injEq] at h;subst h;simp
 |cons e r ih=>
  intro out B h x;rw[tM] at h;obtain⟨o1,h1,h2⟩:=Option.bind_eq_some_iff.1 h;rw[ih h2,ahW h1,List.mem_cons];constructor
  ·rintro((h|h)|h)
   ·exact .inr (.inl h)
   ·exact .inl h
   ·exact .inr (.inr h)
  ·rintro(h|h|h)
   ·exact .inl (.inr h)
   ·exact .inl (.inl h)
   ·exact .inr h
theorem afT:∀{ps:List aS} {out t:List az},e9 out ps=some t->∀x,x∈t <-> x∈out\/∃p,p∈ps/\x∈p.bH:=by
 intro ps;induction ps with
 |nil=>intro out t h x;simp only[e9,Option.some.injEq] at h;subst h;simp
 |cons p r ih=>
  intro out t h x;rw[wX] at h;obtain⟨B,h1,h2⟩:=Option.bind_eq_some_iff.1 h;rw[ih h2,ai0 (xP h1).2];constructor
  ·rintro((h|h)|⟨q,h,aj⟩)
   ·exact .inl h
   ·exact .inr ⟨p,List.mem_cons_self,h⟩
   ·exact .inr ⟨q,List.mem_cons_of_mem _ h,aj⟩
  ·rintro(h|⟨q,h,aj⟩)
   ·exact .inl (.inl h)
   ·rcases List.mem_cons.1 h with rfl|h
    ·exact .inl (.inr aj)
    ·exact .inr ⟨q,h,aj⟩
theorem afS:∀{ps:List aS} {out t:List az},dC out=true->e9 out ps=some t->dC t=true:=by
 intro ps;induction ps with
 |nil=>intro out t aL h;simp only[e9,Option.some.injEq] at h;subst h;exact aL
 |cons p r ih=>
  intro out t aL h;rw[wX] at h;obtain⟨B,h1,h2⟩:=Option.bind_eq_some_iff.1 h;exact ih (xP h1).1 h2
structure wS(ps:List aS)(t:List az):Prop where
 bH:e9 [] ps=some t
 aoB:ps.all ct=true
 aAz:ps.Pairwise fun p q=>Op.bytesLess p.name q.name=true
section
variable {ps:List aS}{t:List az}(R:wS ps t)
include R
theorem wS.ok:dC t=true:=afS (by rfl) R.bH
theorem wS.ayN{p:aS}(h:p∈ps):hZ p.name=true/\dC p.bH=true:=by
 have:=List.all_eq_true.1 R.aoB p h;unfold ct at this;simp only[Bool.and_eq_true] at this;exact⟨this.1.1.1,this.2⟩
theorem wS.ayH{p:aS}(h:p∈ps):fm p.bH:=DC (R.ayN h).2
theorem wS.up{p:aS}(h:p∈ps){path:J}{e:az}(he:sN p.bH path=some e):sN t path=some e:=by
 obtain⟨aD,aF⟩:=(Qn (R.ayH h)).1 he;exact(Qn (DC R.ok)).2 ⟨(afT R.bH e).2 (.inr ⟨p,h,aD⟩),aF⟩
end
abbrev yT:Shape:=⟨[aK 0 .entry,aK 1 .entry,ag 5],[],26⟩
abbrev Gd:List aO:=[(.ret,⟨[ap 4],[],26⟩),(.exit 0,⟨[],[],26⟩)]
noncomputable def zy(y:yT.F):bD yT Gd:=
 bif(decide (y.1.2.2.1<(y.1.1.length:Int))) then
(aN y.1.1 y.1.2.2.1).bind fun a=>
(aN y.1.2.1 y.1.2.2.1).bind fun b=>
 bif(!((a.path==b.path)&&((a.kind==b.kind)&&((a.mode==b.mode)&&(a.text==b.text))))) then
 some (.inr (.inl ((false,()),())))
else
 some (.inl ((y.1.1,y.1.2.1,(IntKind.i64.wrap (y.1.2.2.1+(1:Int))),()),()))
else
 some (.inr (.inr ((),())))
noncomputable def GW:yT.F->Option (aA Gd):=bo zy
theorem akG:aT O (an (codeOf Tryz.f163) 1 58) (aU yT Gd GW):=bE g0 (by kernel_rfl) af fun y=>by kernel_rfl
abbrev i163:Shape:=⟨[aK 0 .entry,aK 1 .entry],[],26⟩
abbrev WD:Shape:=⟨[ap 4],[],26⟩
noncomputable def f163(a:i163.F):Option WD.F:=
 bif((a.1.1.length:Int) !=(a.1.2.1.length:Int)) then
 some ((false,()),())
else
(GW ((a.1.1,a.1.2.1,(0:Int),()),())).bind fun b=>
(match b with
|.inl c=>
 some ((c.1.1,()),())
|.inr d=>
 some ((true,()),()))
noncomputable def YR:aB:=aG ad Tryz.f163 i163 WD [] f163
theorem aqc:ay O 163 YR:=aJ g0 Tryz.func163 (by kernel_rfl) (a6 akG af) (fun y=>by kernel_rfl) fun a=>by kernel_rfl
theorem aoi{t:bc}{xs:List (den t)}(h:kx (.sl t xs)):xs.length<=maxLen/\∀x,x∈xs->∀d,d∈enc t x->kx d:=by cases h;exact⟨by assumption,by assumption⟩
theorem ahq{xs:List Int}(h:kx (.sl .u8 xs)):∀x,x∈xs->0<=x/\x<=255:=by
 intro x hx;have:=(aoi h).2 x hx (.int .u8 x) (by simp[enc])
 cases this with
 |int k n hw=>
  simp only[Lit.wf,Bool.and_eq_true,decide_eq_true_eq] at hw;have h1:(0:Int)<=x:=hw.1;have h2:x<=(255:Int):=hw.2;exact⟨h1,h2⟩
theorem ajZ{code:List Int}(h:∀x,x∈code->0<=x/\x<=255):cQ (code.take 2000) 0 1000000:=
 ⟨by rw[List.length_take];omega,fun x hx=>h x (List.mem_of_mem_take hx),Int.le_refl _,by decide⟩
theorem DW{aI:Type}:∀(xs:List aI) (i:Nat),allI (fun _ _=>true) i xs=true:=by
 intro xs;induction xs with
 |nil=>intro i;rfl
 |cons x r ih=>intro i;simp only[allI,ih,Bool.and_self]
theorem ahF(a)(h:a.1.1=a.1.2.1)(hl:b9 a.1.1.length):f163 a=some ((true,()),()):=by
 obtain⟨⟨xs,bg,u⟩,bT⟩:=a;have h:xs=bg:=h;subst h;have hs:xs.length<=2097152:=hl;have key:GW ((xs,(xs,((0:Int),()))),())=some (bif allI (fun _ _=>true) 0 xs then .inr ((),()) else .inl ((false,()),())):=by
  refine fy zy xs (fun i=>((xs,(xs,((i:Int),()))),())) _ _ _ (fun i x hx=>?_) ?_
  ·have hi:=cD hx;have hw:ax i:=by unfold ax;omega
   simp only[zy,cq hi,cond_true,bY,hx,Option.bind_some,beq_self_eq_true,Bool.and_self,Bool.not_true,cond_false,b4 hw]
  ·simp only[zy,dd,cond_false]
 rw[DW] at key;have hb:((xs.length:Int) !=(xs.length:Int))=false:=by simp
 simp only[f163,hb,cond_false,key,cond_true,Option.bind_some]
abbrev yU:Shape:=⟨[aK 0 .need,aK 1 .need,ag 5],[],26⟩
abbrev Ge:List aO:=[(.ret,⟨[ap 4],[],26⟩),(.exit 0,⟨[],[],26⟩)]
noncomputable def zz(y:yU.F):bD yU Ge:=
 bif(decide (y.1.2.2.1<(y.1.1.length:Int))) then
(aN y.1.1 y.1.2.2.1).bind fun a=>
(aN y.1.2.1 y.1.2.2.1).bind fun b=>
 bif(!((a.name==b.name)&&((a.kind==b.kind)&&(a.bf==b.bf)))) then
 some (.inr (.inl ((false,()),())))
else
 some (.inl ((y.1.1,y.1.2.1,(IntKind.i64.wrap (y.1.2.2.1+(1:Int))),()),()))
else
 some (.inr (.inr ((),())))
noncomputable def GX:yU.F->Option (aA Ge):=bo zz
theorem akH:aT O (an (codeOf Tryz.f162) 1 58) (aU yU Ge GX):=bE g0 (by kernel_rfl) af fun y=>by kernel_rfl
abbrev i162:Shape:=⟨[aK 0 .need,aK 1 .need],[],26⟩
abbrev WE:Shape:=⟨[ap 4],[],26⟩
noncomputable def f162(a:i162.F):Option WE.F:=
 bif((a.1.1.length:Int) !=(a.1.2.1.length:Int)) then
 some ((false,()),())
else
(GX ((a.1.1,a.1.2.1,(0:Int),()),())).bind fun b=>
(match b with
|.inl c=>
 some ((c.1.1,()),())
|.inr d=>
 some ((true,()),()))
noncomputable def YS:aB:=aG ad Tryz.f162 i162 WE [] f162
theorem z162:ay O 162 YS:=aJ g0 Tryz.func162 (by kernel_rfl) (a6 akH af) (fun y=>by kernel_rfl) fun a=>by kernel_rfl
noncomputable abbrev atg:a7:=[(162,YS),(163,YR)]
theorem atY:aQ O (aY ad atg):=aV ⟨z162,aqc,⟨⟩⟩
abbrev i111:Shape:=⟨[b5 0 [ah,ah,bl .need,bl .entry],b5 1 [ah,ah,bl .need,bl .entry]],[],31⟩
abbrev Xf:Shape:=⟨[ap 4],[],31⟩
noncomputable def f111(a:i111.F):Option Xf.F:=
 bif(a.1.1.1==a.1.2.1.1) then
 bif(a.1.1.2.1==a.1.2.1.2.1) then
(f162 ((a.1.1.2.2.1,a.1.2.1.2.2.1,()),())).bind fun b=>
 bif b.1.1 then
(f163 ((a.1.1.2.2.2.1,a.1.2.1.2.2.2.1,()),())).bind fun c=>
 some ((c.1.1,()),())
else
 some ((false,()),())
else
 some ((false,()),())
else
 some ((false,()),())
noncomputable def Zi:aB:=aG ad Tryz.f111 i111 Xf [] f111
theorem aqs:ay O 111 Zi:=aJ atY Tryz.func111 (by kernel_rfl) af (fun y=>by kernel_rfl) fun a=>by kernel_rfl
noncomputable abbrev axB:a7:=[(111,Zi)]
theorem abl:aQ O (aY ad axB):=aV ⟨aqs,⟨⟩⟩
abbrev Af:Shape:=⟨[aK 0 .pack,aK 1 .pack,ag 5],[],27⟩
abbrev HL:List aO:=[(.ret,⟨[ap 4],[],27⟩),(.exit 0,⟨[],[],27⟩)]
noncomputable def AI(y:Af.F):bD Af HL:=
 bif(decide (y.1.2.2.1<(y.1.1.length:Int))) then
(aN y.1.1 y.1.2.2.1).bind fun a=>
(aN y.1.2.1 y.1.2.2.1).bind fun b=>
(f111 (((a.name,a.bf,a.bj,a.bH,()),(b.name,b.bf,b.bj,b.bH,()),()),())).bind fun c=>
 bif(!c.1.1) then
 some (.inr (.inl ((false,()),())))
else
 some (.inl ((y.1.1,y.1.2.1,(IntKind.i64.wrap (y.1.2.2.1+(1:Int))),()),()))
else
 some (.inr (.inr ((),())))
noncomputable def H9:Af.F->Option (aA HL):=bo AI
theorem amD:aT O (an (codeOf Tryz.f62) 1 58) (aU Af HL H9):=bE abl (by kernel_rfl) af fun y=>by kernel_rfl
abbrev i62:Shape:=⟨[aK 0 .pack,aK 1 .pack],[],27⟩
abbrev _q:Shape:=⟨[ap 4],[],27⟩
noncomputable def f62(a:i62.F):Option _q.F:=
 bif((a.1.1.length:Int) !=(a.1.2.1.length:Int)) then
 some ((false,()),())
else
(H9 ((a.1.1,a.1.2.1,(0:Int),()),())).bind fun b=>
(match b with
|.inl c=>
 some ((c.1.1,()),())
|.inr d=>
 some ((true,()),()))
noncomputable def aaS:aB:=aG ad Tryz.f62 i62 _q [] f62
theorem auf:ay O 62 aaS:=aJ abl Tryz.func62 (by kernel_rfl) (a6 amD af) (fun y=>by kernel_rfl) fun a=>by kernel_rfl
noncomputable abbrev axR:a7:=[(62,aaS)]
theorem ayg:aQ O (aY ad axR):=aV ⟨auf,⟨⟩⟩
abbrev i32:Shape:=⟨[b5 0 [bl .pack],b5 1 [bl .pack]],[],10⟩
abbrev _G:Shape:=⟨[ap 4],[],10⟩
noncomputable def f32(a:i32.F):Option _G.F:=
(f62 ((a.1.1.1,a.1.2.1.1,()),())).bind fun b=>
 some ((b.1.1,()),())
noncomputable def aa2:aB:=aG ad Tryz.f32 i32 _G [] f32
theorem aun:ay O 32 aa2:=aJ ayg Tryz.func32 (by kernel_rfl) af (fun y=>by kernel_rfl) fun a=>by kernel_rfl
theorem afI(a)(h:a.1.1=a.1.2.1)(hl:b9 a.1.1.length):f162 a=some ((true,()),()):=by
 obtain⟨⟨xs,bg,u⟩,bT⟩:=a;have h:xs=bg:=h;subst h;have hs:xs.length<=2097152:=hl;have key:GX ((xs,(xs,((0:Int),()))),())=some (bif allI (fun _ _=>true) 0 xs then .inr ((),()) else .inl ((false,()),())):=by
  refine fy zz xs (fun i=>((xs,(xs,((i:Int),()))),())) _ _ _ (fun i x hx=>?_) ?_
  ·have hi:=cD hx;have hw:ax i:=by unfold ax;omega
   simp only[zz,cq hi,cond_true,bY,hx,Option.bind_some,beq_self_eq_true,Bool.and_self,Bool.not_true,cond_false,b4 hw]
  ·simp only[zz,dd,cond_false]
 rw[DW] at key;have hb:((xs.length:Int) !=(xs.length:Int))=false:=by simp
 simp only[f162,hb,cond_false,key,cond_true,Option.bind_some]
theorem ahG(a)(h:a.1.1.1=a.1.2.1.1)(hl:fj a.1.1.1):f32 a=some ((true,()),()):=by
 obtain⟨⟨⟨xs,n9⟩,⟨bg,u1⟩,u⟩,bT⟩:=a;have h:xs=bg:=h;subst h;have hs:xs.length<=2097152:=hl.1;have key:H9 ((xs,(xs,((0:Int),()))),())=some (bif allI (fun _ _=>true) 0 xs then .inr ((),()) else .inl ((false,()),())):=by
  refine fy AI xs (fun i=>((xs,(xs,((i:Int),()))),())) _ _ _ (fun i x hx=>?_) ?_
  ·have hi:=cD hx;have hw:ax i:=by unfold ax;omega
   have pc:=hl.2 x (List.mem_of_getElem? hx);have e1:=afI ((x.bj,(x.bj,())),()) rfl pc.2.2.1.1;have e2:=ahF ((x.bH,(x.bH,())),()) rfl pc.2.2.2.1;simp only[AI,cq hi,cond_true,bY,hx,Option.bind_some,f111,beq_self_eq_true,e1,e2,Bool.not_true,cond_false,b4 hw]
  ·simp only[AI,dd,cond_false]
 rw[DW] at key;have hb:((xs.length:Int) !=(xs.length:Int))=false:=by simp
 simp only[f32,f62,hb,cond_false,key,cond_true,Option.bind_some]
noncomputable abbrev axW:a7:=[(58,U7)]
theorem ayk:aQ O (aY ad axW):=aV ⟨aoc,⟨⟩⟩
abbrev i26:Shape:=⟨[aK 0 .u8],[],6⟩
abbrev _L:Shape:=⟨[au 2 2 0],[ar 2 [bl .pack]],6⟩
noncomputable def f26(a:i26.F):Option _L.F:=
(Bi (((),()),((a.1.1.take 2000),(0:Int),()),())).bind fun b=>
 some (((),()),(b.2.2.1.1,()),())
noncomputable def aa6:aB:=aG ad Tryz.f26 i26 _L [] f26
theorem aup:ay O 26 aa6:=aJ ayk Tryz.func26 (by kernel_rfl) af (fun y=>by kernel_rfl) fun a=>by kernel_rfl
abbrev i28:Shape:=⟨[b5 0 [ah,ah],b5 1 [ah,ah]],[],17⟩
abbrev _J:Shape:=⟨[ap 4],[],17⟩
noncomputable def f28(a:i28.F):Option _J.F:=
 bif(a.1.1.1==a.1.2.1.1) then
 some (((a.1.1.2.1==a.1.2.1.2.1),()),())
else
 some ((false,()),())
noncomputable def aa5:aB:=aG ad Tryz.f28 i28 _J [] f28
theorem z28:ay O 28 aa5:=aJ g0 Tryz.func28 (by kernel_rfl) af (fun y=>by kernel_rfl) fun a=>by kernel_rfl
noncomputable abbrev axC:a7:=[(66,Lu)]
theorem abm:aQ O (aY ad axC):=aV ⟨ZU,⟨⟩⟩
abbrev SG:Shape:=⟨[ak 4,ak 5,ap 6],[],20⟩
abbrev Su:List aO:=[(.norm,⟨[ak 4,ap 18],[],20⟩)]
noncomputable def AJ(y:SG.F):Option (aA Su):=
 bif(!(!y.1.2.2.1)) then
 some ((y.1.1,(!(y.1.2.1==([101,110,100,10]:J))),()),())
else
 some ((y.1.1,true,()),())
theorem amE:aT O (an (codeOf Tryz.f61) 1 28) (aU SG Su AJ):=b8 abm (by kernel_rfl) af fun y=>by kernel_rfl
abbrev i61:Shape:=⟨[ak 0],[],20⟩
abbrev _r:Shape:=⟨[ak 2,ap 3],[],20⟩
noncomputable def f61(a:i61.F):Option _r.F:=
(f66 ((a.1.1,()),())).bind fun b=>
(AJ ((b.1.1,b.1.2.1,b.1.2.2.1,()),())).bind fun c=>
 bif c.1.2.1 then
 some ((([]:J),false,()),())
else
 some ((c.1.1,true,()),())
noncomputable def aaT:aB:=aG ad Tryz.f61 i61 _r [] f61
theorem aug:ay O 61 aaT:=aJ abm Tryz.func61 (by kernel_rfl) (a6 amE af) (fun y=>by kernel_rfl) fun a=>by kernel_rfl
noncomputable abbrev axS:a7:=[(27,Lz),(35,Lx),(61,aaT)]
theorem abt:aQ O (aY ad axS):=aV ⟨ZZ,ZX,aug,⟨⟩⟩
abbrev SI:Shape:=⟨[au 1 1 0,au 2 2 0,au 3 3 0,ap 4,ak 5,ap 6],[ar 1 [ah,ah],bm 5000128 .pack 2 0,ar 2 [.own 5000128],ar 3 [ah,ah]],31⟩
abbrev Sw:List aO:=[(.norm,⟨[au 2 2 0,au 3 3 0,ap 4,ak 5],[bm 5000128 .pack 2 0,ar 2 [.own 5000128],ar 3 [ah,ah]],31⟩)]
noncomputable def Ih(y:SI.F):Option (aA Sw):=
 bif(!y.1.2.2.2.2.2.1) then
 some (((),(),y.1.2.2.2.1,y.2.1.1,()),y.2.2.1,((),()),(y.2.2.2.2.1.1,y.2.2.2.2.1.2.1,()),())
else
 some (((),(),y.1.2.2.2.1,y.1.2.2.2.2.1,()),y.2.2.1,((),()),(y.2.2.2.2.1.1,y.2.2.2.2.1.2.1,()),())
theorem amM:aT O (an (codeOf Tryz.f31) 1 14) (aU SI Sw Ih):=b8 abt (by kernel_rfl) af fun y=>by kernel_rfl
abbrev i31:Shape:=⟨[b5 0 [ah,ah]],[],31⟩
abbrev vI:Shape:=⟨[au 2 2 0,au 3 3 0,ap 4],[bm 5000128 .pack 2 0,ar 2 [.own 5000128],ar 3 [ah,ah]],31⟩
noncomputable def f31(a:i31.F):Option vI.F:=
(f61 ((a.1.1.2.1,()),())).bind fun b=>
(Ih (((),(),(),false,b.1.1,b.1.2.1,()),(a.1.1.1,a.1.1.2.1,()),([]:List aS),((),()),(([]:J),([]:J),()),())).bind fun c=>
(f35 ((c.1.2.2.2.1,()),())).bind fun d=>
 bif(!d.1.2.1) then
 some (((),(),false,()),([]:List aS),((),()),(([]:J),([]:J),()),())
else
(f27 (((d.2.1,()),()),())).bind fun e=>
 some (((),(),true,()),d.2.1,((),()),(e.2.1.1,e.2.1.2.1,()),())
noncomputable def aa3:aB:=aG ad Tryz.f31 i31 vI [] f31
theorem z31:ay O 31 aa3:=aJ abt Tryz.func31 (by kernel_rfl) (a6 amM af) (fun y=>by kernel_rfl) fun a=>by kernel_rfl
noncomputable abbrev azb:a7:=[(14,tr),(26,aa6),(27,Lz),(28,aa5),(29,aa4),(30,wl),(31,aa3),(32,aa2)]
theorem Dd:aQ O (aY ad azb):=aV ⟨Kh,aup,ZZ,z28,auo,Ca,z31,aun,⟨⟩⟩
abbrev SE:Shape:=⟨[ap 2,au 3 3 0,au 4 4 0],[ar 3 [bl .pack],ar 4 [ah,ah]],53⟩
abbrev Ss:List aO:=[(.norm,⟨[ap 2,au 3 3 0,au 4 4 0,ap 24],[ar 3 [bl .pack],ar 4 [ah,ah]],53⟩)]
noncomputable def AG(y:SE.F):Option (aA Ss):=
(f29 (((y.2.1.1,()),()),())).bind fun a=>
(f28 (((y.2.2.1.1,y.2.2.1.2.1,()),(a.2.1.1,a.2.1.2.1,()),()),())).bind fun b=>
 bif(!b.1.1) then
 some ((y.1.1,(),(),true,()),(y.2.1.1,()),(y.2.2.1.1,y.2.2.1.2.1,()),())
else
(f30 (((y.2.1.1,()),()),())).bind fun c=>
 some ((y.1.1,(),(),(!c.1.1),()),(y.2.1.1,()),(y.2.2.1.1,y.2.2.1.2.1,()),())
theorem amA:aT O (an (codeOf Tryz.f6) 1 124) (aU SE Ss AG):=b8 Dd (by kernel_rfl) af fun y=>by kernel_rfl
abbrev i6:Shape:=⟨[aK 0 .u8],[],53⟩
abbrev C1:Shape:=⟨[ap 2],[],53⟩
noncomputable def f6(a:i6.F):Option C1.F:=
 bif(decide ((a.1.1.length:Int)>(1048576:Int))) then
 some ((true,()),())
else
(f26 ((a.1.1,()),())).bind fun b=>
(f27 (((b.2.1.1,()),()),())).bind fun c=>
(AG ((false,(),(),()),(b.2.1.1,()),(c.2.1.1,c.2.1.2.1,()),())).bind fun d=>
 bif d.1.2.2.2.1 then
(f29 (((d.2.1.1,()),()),())).bind fun e=>
(f28 (((d.2.2.1.1,d.2.2.1.2.1,()),(e.2.1.1,e.2.1.2.1,()),()),())).bind fun f=>
 some ((f.1.1,()),())
else
(f31 (((d.2.2.1.1,d.2.2.1.2.1,()),()),())).bind fun g=>
(f14 (((d.2.2.1.1,d.2.2.1.2.1,()),()),())).bind fun h=>
 bif(h.1.1==g.1.2.2.1) then
 bif(!(!g.1.2.2.1)) then
(f32 (((g.2.1,()),(d.2.1.1,()),()),())).bind fun i=>
 bif i.1.1 then
(f28 (((g.2.2.2.1.1,g.2.2.2.1.2.1,()),(d.2.2.1.1,d.2.2.1.2.1,()),()),())).bind fun j=>
 some ((j.1.1,()),())
else
 some ((false,()),())
else
 some ((true,()),())
else
 some ((false,()),())
noncomputable def tC:aB:=aG ad Tryz.f6 i6 C1 [] f6
theorem CY:ay O 6 tC:=aJ Dd Tryz.func6 (by kernel_rfl) (a6 amA af) (fun y=>by kernel_rfl) fun a=>by kernel_rfl
def jO(s:J):Option J:=match iO s with|some (x,y)=>bif y==vn then some x else none|none=>none
theorem afv(s:J)(hs:ax s.length):f61 ((s,()),())=some ((((jO s).getD [],((jO s).isSome,()))),()):=by
 have e1:=Dr s hs;unfold jO;cases hz:iO s with
 |none=>
  rw[hz] at e1;simp only[f61,e1,Option.bind_some,AJ,Option.isSome_none,Bool.not_false,Bool.not_true,cond_false,cond_true];rfl
 |some q=>
  obtain⟨x,y⟩:=q;rw[hz] at e1;have hw:(y==([101,110,100,10]:J))=(y==vn):=rfl;simp only[f61,e1,Option.bind_some,AJ,Option.isSome_some,Option.getD_some,Bool.not_true,Bool.not_false,cond_true,hw];cases y==vn<;>rfl
abbrev ay8(ps:List aS)(d:J):vI.F:=(((),((),(true,()))),(ps,(((),()),((d,(([]:J),())),()))))
abbrev abc:vI.F:=(((),((),(false,()))),(([]:List aS),(((),()),((([]:J),(([]:J),())),()))))
def LB(B:Option (List aS))(d:J):vI.F:=match B with|some ps=>ay8 ps d|none=>abc
theorem af8{s x y:J}(h:iO s=some (x,y)):x.length<=s.length:=by
 have:=(DL h).1;rw[this];unfold dU;simp;omega
theorem agc{s x:J}(h:jO s=some x):x.length<=s.length:=by
 unfold jO at h;cases hz:iO s with
 |none=>rw[hz] at h;cases h
 |some q=>
  obtain⟨a,b⟩:=q;rw[hz] at h;have h:(bif b==vn then some a else none)=some x:=h
  cases hb:b==vn with
  |false=>rw[hb] at h;cases h
  |true=>rw[hb] at h;cases h;exact af8 hz
theorem adz(d t:J)(Z:d.length<=1000000000)(aw:t.length<=1000000000):∃B:Option (List aS),f31 (((d,(t,())),()),())=some (LB B ((jO t).getD d))/\ny B (qu ((jO t).getD d)):=by
 have e1:=afv t (by unfold ax;omega)
 have hl:((jO t).getD d).length<=1000000000:=by
  cases h:jO t with
  |none=>exact Z
  |some x=>have:=agc h;show x.length<=_;omega
 obtain⟨B,e2,h2⟩:=Nv ((jO t).getD d) hl;have fin:∀x:J,x=(jO t).getD d->((f35 ((x,()),())).bind fun Iy=>
   bif(!Iy.1.2.1) then some abc else(f27 (((Iy.2.1,()),()),())).bind fun Ut=>some (((),((),(true,()))),(Iy.2.1,(((),()),((Ut.2.1.1,(Ut.2.1.2.1,())),())))))=some (LB B ((jO t).getD d)):=by
  intro x hx;subst hx;rw[e2];cases B with
  |none=>rfl
  |some ps=>
   obtain⟨h3,aE,bi⟩:=(h2 ps).1 rfl;obtain⟨hb,hv⟩:=G' bi (by have:=(og h3).2;omega)
   have bv:=Nw ps hb hv;rw[h3,aE] at bv;have bv:f27 (((ps,()),()),())=some (((),()),(((jO t).getD d,(([]:J),())),())):=bv;show(f27 (((ps,()),()),())).bind _=_;rw[bv];rfl
 refine⟨B,?_,h2⟩;simp only[f31,e1,Option.bind_some,Ih];cases h:jO t with
 |none=>
  rw[h] at fin;simp only[Option.isSome_none,Bool.not_false,cond_true,Option.bind_some];exact fin d rfl
 |some x=>
  rw[h] at fin;simp only[Option.isSome_some,Bool.not_true,cond_false,Option.bind_some];exact fin x rfl
theorem aeS:∀{ps qs:List aS},(∀p,p∈ps->(cE p).length<1000000000)->(∀q,q∈qs->(cE q).length<=4000)->dZ ps=dZ qs->∀p,p∈ps->(cE p).length<=4000:=by
 intro ps;induction ps with
 |nil=>intro qs _ _ _ p hp;cases hp
 |cons p ps ih=>
  intro qs h1 h2 he x hx;have eX:=Ee (cE p) (dZ ps) (h1 p List.mem_cons_self);rw[<-xA,he] at eX;cases qs with
  |nil=>cases eX
  |cons q qs=>
   have aC:=h2 q List.mem_cons_self;have z2:=Ee (cE q) (dZ qs) (by omega)
   rw[<-xA,eX] at z2;simp only[Option.some.injEq,Prod.mk.injEq] at z2;rcases List.mem_cons.1 hx with rfl|hx
   ·rw[z2.1];exact aC
   ·exact ih (fun p hp=>h1 p (List.mem_cons_of_mem _ hp)) (fun q aC=>h2 q (List.mem_cons_of_mem _ aC)) z2.2 x hx
theorem ah5{ps qs:List aS}{B:Option (List aS)}(hb:fj ps)(hr:fP ps=true)(h:ny B (qu (dZ ps)))(aC:B=some qs):qs=ps:=by
 obtain⟨h1,h2,h3⟩:=(h qs).1 aC;have hk:=(og hr).1;have hs:=aeS (ps:=ps) (qs:=qs) (fun p hp=>by have:=x' (hb.2 p hp) (hk p hp);omega) (fun q aC=>(h3 q aC).2) h2.symm
 have:=(h ps).2 ⟨hr,rfl,fun p hp=>⟨hk p hp,hs p hp⟩⟩
 rw[aC] at this;exact Option.some.inj this
theorem Pt(s t:J):f28 (((s,(t,())),((s,(t,())),())),())=some ((true,()),()):=by
 simp only[f28,beq_self_eq_true,cond_true]
theorem acw(a)(h:cQ (a.1.1.take 2000) 0 1000000):aa (f26 a) (fun r=>j3 5 r.2.1.1):=by
 unfold f26;exact aa.bind (acR _ 1000000 h (by decide)) fun r hr=>aa.ret hr.2
theorem adB(a)(h:∀x,x∈(a.1.1:List Int)->0<=x/\x<=255):aa (f6 a) (fun r=>r.1.1=true):=by
 unfold f6;refine aa.ite (fun _=>aa.ret rfl) fun _=>?_
 refine aa.bind (acw _ (ajZ h)) fun r hr=>?_
 obtain⟨n9,⟨⟨(ps:List aS),u1⟩,u2⟩⟩:=r;have hr:j3 5 ps:=hr;have hb:=hr.ok.C9 (by decide)
 have hv:=hr.ok.vs;have e1:=Nw ps hb hv;have e2:=afP ps hb hv;have bv:=Pu (((ps,()),()),()) hb hv;have bv:f30 (((ps,()),()),())=some ((fP ps,()),()):=bv;refine aa.eq e1 ?_
 cases hk:fP ps with
 |false=>
  rw[hk] at e1 e2 bv;have C6:=Pt [] [];simp only[cond_false,AG,e2,bv,C6,Option.bind_some,Bool.not_true,Bool.not_false,cond_true];exact aa.ret rfl
 |true=>
  rw[hk] at e1 e2 bv;have C6:=Pt (dZ ps) [];have hl:=aiI hb hk;obtain⟨B,dq,aE⟩:=adz (dZ ps) [] (by omega) (by simp)
  obtain⟨cP,fa,bi⟩:=afJ (dZ ps) [] (by omega)
  have aE:ny B (qu (dZ ps)):=aE;have dq:f31 (((dZ ps,(([]:J),())),()),())=some (LB B (dZ ps)):=dq;cases aE.aqJ bi;simp only[cond_true,AG,e2,bv,C6,Option.bind_some,Bool.not_true,Bool.not_false,cond_false];refine aa.eq dq ?_
  refine aa.eq fa ?_
  cases aL:B with
  |none=>exact aa.ret rfl
  |some qs=>
   cases ah5 hb hk aE aL;have awP:=ahG (((ps,()),((ps,()),())),()) rfl hb;show aa ((f32 (((ps,()),((ps,()),())),())).bind _) _;refine aa.eq awP ?_
   simp only[cond_true];refine aa.eq C6 ?_
   exact aa.ret rfl
theorem pure_FnDiskNew:LawOk tC [(false,[.sl .u8])]:=by
 rintro⟨⟨code,u⟩,bT⟩ ⟨h,_⟩;obtain⟨r,hr,aC⟩:=adB ((code,()),()) (ahq (h (.sl .u8 code) (by simp[fh,dw.mk])))
 obtain⟨⟨b,v⟩,v'⟩:=r;have aC:b=true:=aC;subst aC;exact⟨((true,()),()),hr,rfl⟩
end Go.Proofs
