/- FnDiskRise: recovery is idempotent. (part 5 of 7: JkKF257, JkKPuSb, JkKF121, JkKPuSc, JkKF256, JkKF220, JkKPuSd, JkKF122v0, JkKF219, JkKF173, JkKF69, JkKPuSe, JkKF63v0, JkKPl, JkKFH64, JkKF120, JkKF83, JkKF226, JkKF181, JkKPuPa, JkKF119, JkKF225, JkK) Conditions: none beyond the statement. -/
import Derived.Test.YthhecoidfjkmeaaGreatDoorZFnDiskRise3
import Derived.Tactics
import Derived.Deep.RegionLaw
import Derived.Shelf.Abstract
import Derived.Test.YthhecoidfjkmeaaGreatDoorProg
import Derived.KernelRfl
import Derived.Shelf.LaysM
import Derived.Shelf.Strconv.Itoa3
import Derived.Shelf.Strings.IndexAnyAll
import Derived.Laws.RangeAny
import Derived.Lib.OthersKept
import Derived.Shelf.Small.Utf8
import Derived.Laws.Runes
import Derived.Laws.Cover4
import Derived.WalkMore
import Derived.Shelf.RegionOpenPlain
set_option linter.unusedSimpArgs false
set_option maxRecDepth 100000
set_option linter.unusedVariables false
namespace Go.Proofs
open Go.Jk
noncomputable abbrev au1:a8:=[(276,_q),(277,_p),(278,LP)]
theorem DR:aT O (aZ af au1):=aY ⟨asq,asp,XA,⟨⟩⟩
abbrev yO:Shape:=⟨[aO 0 .u32,bd 5 3000320,bd 6 3000384,bd 7 3000448,aj 8,(11,.aq (.d (.int .u32))),(12,.aq (.d (.int .u32))),(13,.aq (.d (.int .u32))),aj 14],[bc 3000320 .u32 5 0,bc 3000384 .u32 6 0,bc 3000448 .u32 7 0],155⟩
abbrev Fk:List aR:=[(.exit 2,⟨[aO 0 .u32,bd 5 3000320,bd 6 3000384,bd 7 3000448,aj 8,(11,.aq (.d (.int .u32))),(12,.aq (.d (.int .u32))),(13,.aq (.d (.int .u32)))],[bc 3000320 .u32 5 0,bc 3000384 .u32 6 0,bc 3000448 .u32 7 0],155⟩)]
noncomputable def O_(y:yO.J):bQ yO Fk:=
 bif(decide (y.1.2.2.2.2.2.2.2.2.1>(0:Int))) then
(bf y.2.2.2.1.length (IntKind.i64.wrap (y.1.2.2.2.2.2.2.2.2.1-(1:Int)))).bind fun a=>
(y.2.2.2.1[a]?).bind fun b=>
(bf y.2.2.2.1.length y.1.2.2.2.2.2.2.2.2.1).bind fun c=>
((y.2.2.2.1[c]?).bind fun q=>some b).bind fun d=>
 some (.inl ((y.1.1,(),(),(),y.1.2.2.2.2.1,y.1.2.2.2.2.2.1,y.1.2.2.2.2.2.2.1,y.1.2.2.2.2.2.2.2.1,(IntKind.i64.wrap (y.1.2.2.2.2.2.2.2.2.1-(1:Int))),()),y.2.1,y.2.2.1,(y.2.2.2.1.set c d),()))
else
 some (.inr ((y.1.1,(),(),(),y.1.2.2.2.2.1,y.1.2.2.2.2.2.1,y.1.2.2.2.2.2.2.1,y.1.2.2.2.2.2.2.2.1,()),y.2.1,y.2.2.1,y.2.2.2.1,()))
noncomputable def Fm:yO.J->Option (aH Fk):=bA O_
theorem afQ:aV O (ap (dk (ap (codeOf Tryz.f257) 1 250)) 500 1025274) (aX yO Fk Fm):=bT DR (by kernel_rfl) ag fun y=>by kernel_rfl
abbrev zR:Shape:=⟨[aO 0 .u32,bd 5 3000320,bd 6 3000384,bd 7 3000448,aj 8],[bc 3000320 .u32 5 0,bc 3000384 .u32 6 0,bc 3000448 .u32 7 0],155⟩
abbrev GX:List aR:=[(.exit 0,⟨[aO 0 .u32,bd 7 3000448],[bc 3000448 .u32 7 0],155⟩)]
noncomputable def HF(y:zR.J):bQ zR GX:=
 bif(decide (y.1.2.2.2.2.1<(64:Int))) then
(bf y.2.2.2.1.length (4:Int)).bind fun a=>
(y.2.2.2.1[a]?).bind fun b=>
(f278 ((b,(6:Int),()),())).bind fun c=>
(bf y.2.2.2.1.length (4:Int)).bind fun d=>
(y.2.2.2.1[d]?).bind fun e=>
(f278 ((e,(11:Int),()),())).bind fun f=>
(bf y.2.2.2.1.length (4:Int)).bind fun g=>
(y.2.2.2.1[g]?).bind fun h=>
(f278 ((h,(25:Int),()),())).bind fun i=>
(bf y.2.2.2.1.length (4:Int)).bind fun j=>
(y.2.2.2.1[j]?).bind fun k=>
(bf y.2.2.2.1.length (5:Int)).bind fun l=>
(y.2.2.2.1[l]?).bind fun m=>
(bf y.2.2.2.1.length (4:Int)).bind fun n=>
(y.2.2.2.1[n]?).bind fun D=>
(bf y.2.2.2.1.length (6:Int)).bind fun p=>
(y.2.2.2.1[p]?).bind fun r=>
(bf y.2.2.2.1.length (7:Int)).bind fun s=>
(y.2.2.2.1[s]?).bind fun t=>
(bf y.2.2.1.length y.1.2.2.2.2.1).bind fun u=>
(y.2.2.1[u]?).bind fun v=>
(bf y.2.1.length y.1.2.2.2.2.1).bind fun w=>
(y.2.1[w]?).bind fun x=>
(bf y.2.2.2.1.length (0:Int)).bind fun z=>
(y.2.2.2.1[z]?).bind fun A=>
(f278 ((A,(2:Int),()),())).bind fun bx=>
(bf y.2.2.2.1.length (0:Int)).bind fun C=>
(y.2.2.2.1[C]?).bind fun bk=>
(f278 ((bk,(13:Int),()),())).bind fun E=>
(bf y.2.2.2.1.length (0:Int)).bind fun aW=>
(y.2.2.2.1[aW]?).bind fun G=>
(f278 ((G,(22:Int),()),())).bind fun H=>
(bf y.2.2.2.1.length (0:Int)).bind fun I=>
(y.2.2.2.1[I]?).bind fun ft=>
(bf y.2.2.2.1.length (1:Int)).bind fun K=>
(y.2.2.2.1[K]?).bind fun L=>
(bf y.2.2.2.1.length (0:Int)).bind fun fB=>
(y.2.2.2.1[fB]?).bind fun N=>
(bf y.2.2.2.1.length (2:Int)).bind fun aCd=>
(y.2.2.2.1[aCd]?).bind fun P=>
(bf y.2.2.2.1.length (1:Int)).bind fun Q=>
(y.2.2.2.1[Q]?).bind fun R=>
(bf y.2.2.2.1.length (2:Int)).bind fun S=>
(y.2.2.2.1[S]?).bind fun T=>
(Fm ((y.1.1,(),(),(),y.1.2.2.2.2.1,(IntKind.u32.wrap ((IntKind.u32.wrap ((IntKind.u32.wrap ((IntKind.u32.wrap (t+(dB .u32 (dB .u32 c.1.1 f.1.1) i.1.1)))+(dB .u32 (e0 .u32 k m) (e0 .u32 (dB .u32 4294967295 D) r))))+v))+x)),(dB .u32 (dB .u32 bx.1.1 E.1.1) H.1.1),(dB .u32 (dB .u32 (e0 .u32 ft L) (e0 .u32 N P)) (e0 .u32 R T)),(7:Int),()),y.2.1,y.2.2.1,y.2.2.2.1,())).bind fun ev=>
(bf ev.2.2.2.1.length (4:Int)).bind fun V=>
(ev.2.2.2.1[V]?).bind fun W=>
(bf ev.2.2.2.1.length (4:Int)).bind fun X=>
((ev.2.2.2.1[X]?).bind fun q=>some (IntKind.u32.wrap (W+ev.1.2.2.2.2.2.1))).bind fun OR=>
(bf (ev.2.2.2.1.set X OR).length (0:Int)).bind fun a0=>
(((ev.2.2.2.1.set X OR)[a0]?).bind fun q=>some (IntKind.u32.wrap ((IntKind.u32.wrap (ev.1.2.2.2.2.2.1+ev.1.2.2.2.2.2.2.1))+ev.1.2.2.2.2.2.2.2.1))).bind fun a1=>
 some (.inl ((ev.1.1,(),(),(),(IntKind.i64.wrap (ev.1.2.2.2.2.1+(1:Int))),()),ev.2.1,ev.2.2.1,((ev.2.2.2.1.set X OR).set a0 a1),()))
else
 some (.inr ((y.1.1,(),()),y.2.2.2.1,()))
noncomputable def Hl:zR.J->Option (aH GX):=bA HF
theorem ak1:aV O (ap (codeOf Tryz.f257) 1 250) (aX zR GX Hl):=bT DR (by kernel_rfl) (a7 afQ ag) fun y=>by kernel_rfl
abbrev zh:Shape:=⟨[aO 0 .u32,bd 7 3000448,bd 15 3000960,aj 16],[bc 3000448 .u32 7 0,bc 3000960 .u32 15 0],155⟩
abbrev F0:List aR:=[(.exit 4,⟨[bd 15 3000960],[bc 3000960 .u32 15 0],155⟩)]
noncomputable def Ro(y:zh.J):bQ zh F0:=
 bif(decide (y.1.2.2.2.1<(8:Int))) then
(aS y.1.1 y.1.2.2.2.1).bind fun a=>
(bf y.2.1.length y.1.2.2.2.1).bind fun b=>
(y.2.1[b]?).bind fun c=>
(cm 4 y.2.2.1 ([(IntKind.u32.wrap (a+c))]:List Int)).bind fun d=>
 some (.inl ((y.1.1,(),(),(IntKind.i64.wrap (y.1.2.2.2.1+(1:Int))),()),y.2.1,d,()))
else
 some (.inr (((),()),y.2.2.1,()))
noncomputable def Gn:zh.J->Option (aH F0):=bA Ro
theorem ai3:aV O (ap (codeOf Tryz.f257) 1 1018) (aX zh F0 Gn):=bT DR (by kernel_rfl) ag fun y=>by kernel_rfl
abbrev i257:Shape:=⟨[aO 0 .u32,aO 1 .u8],[],155⟩
abbrev Yc:Shape:=⟨[bd 4 3000256],[bc 3000256 .u32 4 0],155⟩
noncomputable def f257(a:i257.J):Option Yc.J:=
(f276 ((a.1.2.1,()),())).bind fun b=>
(f277 ((),())).bind fun c=>
(cm 4 ([]:List Int) a.1.1).bind fun d=>
(Hl ((a.1.1,(),(),(),(0:Int),()),b.2.1,c.2.1,d,())).bind fun e=>
(Gn ((e.1.1,(),(),(0:Int),()),e.2.1,([]:List Int),())).bind fun f=>
 some (((),()),f.2.1,())
noncomputable def _x:aI:=aL af Tryz.f257 i257 Yc [] f257
theorem asx:aF O 257 _x:=aM DR Tryz.func257 (by kernel_rfl) (a7 ak1 (a7 ai3 ag)) (fun y=>by kernel_rfl) fun a=>by kernel_rfl
structure cB where
 (a b c d e f g h:Int)
def cB.list(s:cB):List Int:=[s.a,s.b,s.c,s.d,s.e,s.f,s.g,s.h]
def NC(e:Int):Int:=dB .u32 (dB .u32 (k6 e 6) (k6 e 11)) (k6 e 25)
def ND(a:Int):Int:=dB .u32 (dB .u32 (k6 a 2) (k6 a 13)) (k6 a 22)
def NB(e f g:Int):Int:=dB .u32 (e0 .u32 e f) (e0 .u32 (dB .u32 4294967295 e) g)
def MF(a b c:Int):Int:=dB .u32 (dB .u32 (e0 .u32 a b) (e0 .u32 a c)) (e0 .u32 b c)
def D_(s:cB)(k w:Int):Int:=IntKind.u32.wrap (IntKind.u32.wrap (IntKind.u32.wrap (IntKind.u32.wrap (s.h+NC s.e)+NB s.e s.f s.g)+k)+w)
def w5(k w:Int)(s:cB):cB:=⟨IntKind.u32.wrap (D_ s k w+IntKind.u32.wrap (ND s.a+MF s.a s.b s.c)),s.a,s.b,s.c,IntKind.u32.wrap (s.d+D_ s k w),s.e,s.f,s.g⟩
def mS(h:cB)(w:List Int):Nat->cB
 |0=>h
 |i+1=>w5 (gb i' i) (gb w i) (mS h w i)
def DI(h s:cB):cB:=⟨IntKind.u32.wrap (h.a+s.a),IntKind.u32.wrap (h.b+s.b),IntKind.u32.wrap (h.c+s.c),IntKind.u32.wrap (h.d+s.d),IntKind.u32.wrap (h.e+s.e),IntKind.u32.wrap (h.f+s.f),IntKind.u32.wrap (h.g+s.g),IntKind.u32.wrap (h.h+s.h)⟩
def xl(h:cB)(b:List Int):cB:=DI h (mS h (cG b 64) 64)
theorem amn(x y z:Int):IntKind.u32.wrap (IntKind.u32.wrap (x+y)+z)=IntKind.u32.wrap (x+IntKind.u32.wrap (y+z)):=by
 simp only[IntKind.wrap_u32];omega
theorem cB.i0(s:cB):bf s.list.length 0=some 0:=rfl
theorem cB.i1(s:cB):bf s.list.length 1=some 1:=rfl
theorem cB.i2(s:cB):bf s.list.length 2=some 2:=rfl
theorem cB.i4(s:cB):bf s.list.length 4=some 4:=rfl
theorem cB.i5(s:cB):bf s.list.length 5=some 5:=rfl
theorem cB.i6(s:cB):bf s.list.length 6=some 6:=rfl
theorem cB.i7(s:cB):bf s.list.length 7=some 7:=rfl
theorem cB.g0(s:cB):s.list[0]? =some s.a:=rfl
theorem cB.g1(s:cB):s.list[1]? =some s.b:=rfl
theorem cB.g2(s:cB):s.list[2]? =some s.c:=rfl
theorem cB.g4(s:cB):s.list[4]? =some s.e:=rfl
theorem cB.g5(s:cB):s.list[5]? =some s.f:=rfl
theorem cB.g6(s:cB):s.list[6]? =some s.g:=rfl
theorem cB.g7(s:cB):s.list[7]? =some s.h:=rfl
def gP(s:cB):Nat->List Int
 |0=>s.list
 |1=>[s.a,s.b,s.c,s.d,s.e,s.f,s.g,s.g]
 |2=>[s.a,s.b,s.c,s.d,s.e,s.f,s.f,s.g]
 |3=>[s.a,s.b,s.c,s.d,s.e,s.e,s.f,s.g]
 |4=>[s.a,s.b,s.c,s.d,s.d,s.e,s.f,s.g]
 |5=>[s.a,s.b,s.c,s.c,s.d,s.e,s.f,s.g]
 |6=>[s.a,s.b,s.b,s.c,s.d,s.e,s.f,s.g]
 |_=>[s.a,s.a,s.b,s.c,s.d,s.e,s.f,s.g]
theorem IE:i'.length=64:=by decide
theorem aip(h:cB)(b:List Int)(hb:sq b):f257 ((h.list,(b,())),())=some (((),()),((xl h b).list,())):=by
 have jZ:=aio b hb;have t2:=fun x=>nq x 2 (by simp[fc]);have t6:=fun x=>nq x 6 (by simp[fc]);have t11:=fun x=>nq x 11 (by simp[fc])
 have t13:=fun x=>nq x 13 (by simp[fc]);have t22:=fun x=>nq x 22 (by simp[fc]);have t25:=fun x=>nq x 25 (by simp[fc])
 have gH:∀(q:List Int) (i iS jx p3:Int) (w:List Int) (s:cB),Fm ((q,((),((),((),(i,(iS,(jx,(p3,((7:Int),()))))))))),(w,(i',(s.list,()))))=
   some ((q,((),((),((),(i,(iS,(jx,(p3,())))))))),(w,(i',(([s.a,s.a,s.b,s.c,s.d,s.e,s.f,s.g]:List Int),())))):=by
  intro q i iS jx p3 w s;refine gd (g:=O_) (fun j=>((q,((),((),((),(i,(iS,(jx,(p3,(((7-j:Nat):Int),()))))))))),(w,(i',(gP s j,()))))) 7 (fun j hj=>?_) rfl 7 0 rfl
  have:j=0\/j=1\/j=2\/j=3\/j=4\/j=5\/j=6:=by omega
  rcases this with rfl|rfl|rfl|rfl|rfl|rfl|rfl<;>rfl
 have b6:f277 ((),())=some (((),()),(i',())):=rfl;have hc:cm 4 ([]:List Int) h.list=some h.list:=rfl;have aG:Hl ((h.list,((),((),((),((0:Int),()))))),(cG b 64,(i',(h.list,()))))=some ((h.list,((),())),((mS h (cG b 64) 64).list,())):=by
  refine gd (g:=HF) (fun i=>((h.list,((),((),((),((i:Int),()))))),(cG b 64,(i',((mS h (cG b 64) i).list,()))))) 64 (fun i hi=>?_) rfl 64 0 rfl
  have hl:decide ((i:Int)<64)=true:=by simp;omega
  have i1:bf i'.length (i:Int)=some i:=fP (by rw[IE];exact hi)
  have g1:=mB (b:=i') (j:=i) (by rw[IE];exact hi)
  have i2:bf (cG b 64).length (i:Int)=some i:=fP (by rw[oy];exact hi)
  have g2:=mB (b:=cG b 64) (j:=i) (by rw[oy];exact hi)
  have hr:mS h (cG b 64) (i+1)=w5 (gb i' i) (gb (cG b 64) i) (mS h (cG b 64) i):=rfl;generalize mS h (cG b 64) i=s at hr ⊢;simp only[HF,hl,ad,cB.i0,cB.i1,cB.i2,cB.i4,cB.i5,cB.i6,cB.i7,cB.g0,cB.g1,cB.g2,cB.g4,cB.g5,cB.g6,cB.g7,i1,g1,i2,g2,Y,t2,t6,t11,t13,t22,t25,gH,wp (i:=i) (by omega),hr]
  have e:∀x y:Int,bf ([s.a,s.a,s.b,s.c,s.d,s.e,s.f,s.g]:List Int).length 4=some 4/\([s.a,s.a,s.b,s.c,s.d,s.e,s.f,s.g]:List Int)[4]? =some s.d/\
   bf (([s.a,s.a,s.b,s.c,s.d,s.e,s.f,s.g]:List Int).set 4 x).length 0=some 0/\(([s.a,s.a,s.b,s.c,s.d,s.e,s.f,s.g]:List Int).set 4 x)[0]? =some s.a:=fun x y=>⟨rfl,rfl,rfl,rfl⟩
  simp only[(e 0 0).1,(e 0 0).2.1,(e _ 0).2.2.1,(e _ 0).2.2.2,Y,w5,D_,NC,ND,NB,MF,amn];rfl
 have aK:Gn ((h.list,((),((),((0:Int),())))),((mS h (cG b 64) 64).list,(([]:List Int),())))=some (((),()),((xl h b).list,())):=by
  unfold xl;generalize mS h (cG b 64) 64=s;refine gd (g:=Ro) (fun i=>((h.list,((),((),((i:Int),())))),(s.list,((DI h s).list.take i,())))) 8 (fun i hi=>?_) rfl 8 0 rfl
  have:i=0\/i=1\/i=2\/i=3\/i=4\/i=5\/i=6\/i=7:=by omega
  rcases this with rfl|rfl|rfl|rfl|rfl|rfl|rfl|rfl<;>rfl
 simp only[f257,jZ,b6,hc,Y,aG,aK]
noncomputable abbrev av4:a8:=[(171,_')]
theorem uw:aT O (aZ af av4):=aY ⟨z171,⟨⟩⟩
abbrev y2:Shape:=⟨[aO 1 .u8,e3 2 2 .u32,e3 4 4 .u32,e3 5 5 .u32,aj 6,aj 27,aO 36 .u8,aj 37,aj 38],[(2,.row .u32,.same),(4,.row .u32,.same),(5,.row .u32,.same)],208⟩
abbrev FG:List aR:=[(.exit 2,⟨[aO 1 .u8,e3 2 2 .u32,e3 4 4 .u32,e3 5 5 .u32,aj 27],[(2,.row .u32,.same),(4,.row .u32,.same),(5,.row .u32,.same)],208⟩)]
noncomputable def qM(y:y2.J):bQ y2 FG:=
 bif(decide (y.1.2.2.2.2.2.2.2.2.1<y.1.2.2.2.2.2.2.2.1)) then
(aS y.1.2.2.2.2.2.2.1 y.1.2.2.2.2.2.2.2.2.1).bind fun a=>
((long 64 y.2.2.2.1).bind fun q=>bf q.length y.1.2.2.2.2.1).bind fun b=>
(y.2.2.2.1[b]?).bind fun c=>
(l4 .u32 c (8:Int)).bind fun d=>
((long 64 y.2.2.2.1).bind fun q=>bf q.length y.1.2.2.2.2.1).bind fun e=>
((y.2.2.2.1[e]?).bind fun q=>some (iu .u32 d (IntKind.u32.wrap a))).bind fun f=>
 some (.inl ((y.1.1,(),(),(),y.1.2.2.2.2.1,y.1.2.2.2.2.2.1,y.1.2.2.2.2.2.2.1,y.1.2.2.2.2.2.2.2.1,(IntKind.i64.wrap (y.1.2.2.2.2.2.2.2.2.1+(1:Int))),()),y.2.1,y.2.2.1,(y.2.2.2.1.set e f),()))
else
 some (.inr ((y.1.1,(),(),(),y.1.2.2.2.2.2.1,()),y.2.1,y.2.2.1,y.2.2.2.1,()))
noncomputable def FK:y2.J->Option (aH FG):=bA qM
theorem ahD:aV O (ap (dk (ap (codeOf Tryz.f121) 1 58)) 116 14950) (aX y2 FG FK):=bT uw (by kernel_rfl) ag fun y=>by kernel_rfl
abbrev A9:Shape:=⟨[aO 1 .u8,e3 2 2 .u32,e3 4 4 .u32,e3 5 5 .u32,aj 27],[(2,.row .u32,.same),(4,.row .u32,.same),(5,.row .u32,.same)],208⟩
abbrev Ix:List aR:=[(.exit 0,⟨[e3 2 2 .u32,e3 4 4 .u32,e3 5 5 .u32],[(2,.row .u32,.same),(4,.row .u32,.same),(5,.row .u32,.same)],208⟩)]
noncomputable def Jt(y:A9.J):bQ A9 Ix:=
 bif(decide (y.1.2.2.2.2.1<(16:Int))) then
(bq y.1.1 (IntKind.i64.wrap ((4:Int)*y.1.2.2.2.2.1)) (IntKind.i64.wrap ((IntKind.i64.wrap ((4:Int)*y.1.2.2.2.2.1))+(4:Int)))).bind fun a=>
(FK ((y.1.1,(),(),(),y.1.2.2.2.2.1,y.1.2.2.2.2.1,a,(a.length:Int),(0:Int),()),y.2.1,y.2.2.1,y.2.2.2.1,())).bind fun b=>
 some (.inl ((b.1.1,(),(),(),(IntKind.i64.wrap (b.1.2.2.2.2.1+(1:Int))),()),b.2.1,b.2.2.1,b.2.2.2.1,()))
else
 some (.inr (((),(),(),()),y.2.1,y.2.2.1,y.2.2.2.1,()))
noncomputable def I_:A9.J->Option (aH Ix):=bA Jt
theorem anD:aV O (ap (codeOf Tryz.f121) 1 58) (aX A9 Ix I_):=bT uw (by kernel_rfl) (a7 ahD ag) fun y=>by kernel_rfl
abbrev z6:Shape:=⟨[e3 2 2 .u32,e3 4 4 .u32,e3 5 5 .u32,aj 9],[(2,.row .u32,.same),(4,.row .u32,.same),(5,.row .u32,.same)],208⟩
abbrev G5:List aR:=[(.exit 4,⟨[e3 2 2 .u32,e3 4 4 .u32,e3 5 5 .u32],[(2,.row .u32,.same),(4,.row .u32,.same),(5,.row .u32,.same)],208⟩)]
noncomputable def HI(y:z6.J):bQ z6 G5:=
 bif(decide (y.1.2.2.2.1<(64:Int))) then
((long 64 y.2.2.2.1).bind fun q=>bf q.length (IntKind.i64.wrap (y.1.2.2.2.1-(15:Int)))).bind fun a=>
(y.2.2.2.1[a]?).bind fun b=>
(f171 ((b,(7:Int),()),())).bind fun c=>
((long 64 y.2.2.2.1).bind fun q=>bf q.length (IntKind.i64.wrap (y.1.2.2.2.1-(15:Int)))).bind fun d=>
(y.2.2.2.1[d]?).bind fun e=>
(f171 ((e,(18:Int),()),())).bind fun f=>
((long 64 y.2.2.2.1).bind fun q=>bf q.length (IntKind.i64.wrap (y.1.2.2.2.1-(15:Int)))).bind fun g=>
(y.2.2.2.1[g]?).bind fun h=>
(fE .u32 h (3:Int)).bind fun i=>
((long 64 y.2.2.2.1).bind fun q=>bf q.length (IntKind.i64.wrap (y.1.2.2.2.1-(2:Int)))).bind fun j=>
(y.2.2.2.1[j]?).bind fun k=>
(f171 ((k,(17:Int),()),())).bind fun l=>
((long 64 y.2.2.2.1).bind fun q=>bf q.length (IntKind.i64.wrap (y.1.2.2.2.1-(2:Int)))).bind fun m=>
(y.2.2.2.1[m]?).bind fun n=>
(f171 ((n,(19:Int),()),())).bind fun D=>
((long 64 y.2.2.2.1).bind fun q=>bf q.length (IntKind.i64.wrap (y.1.2.2.2.1-(2:Int)))).bind fun p=>
(y.2.2.2.1[p]?).bind fun r=>
(fE .u32 r (10:Int)).bind fun s=>
((long 64 y.2.2.2.1).bind fun q=>bf q.length (IntKind.i64.wrap (y.1.2.2.2.1-(16:Int)))).bind fun t=>
(y.2.2.2.1[t]?).bind fun u=>
((long 64 y.2.2.2.1).bind fun q=>bf q.length (IntKind.i64.wrap (y.1.2.2.2.1-(7:Int)))).bind fun v=>
(y.2.2.2.1[v]?).bind fun w=>
((long 64 y.2.2.2.1).bind fun q=>bf q.length y.1.2.2.2.1).bind fun x=>
((y.2.2.2.1[x]?).bind fun q=>some (IntKind.u32.wrap ((IntKind.u32.wrap ((IntKind.u32.wrap (u+(dB .u32 (dB .u32 c.1.1 f.1.1) i)))+w))+(dB .u32 (dB .u32 l.1.1 D.1.1) s)))).bind fun z=>
 some (.inl (((),(),(),(IntKind.i64.wrap (y.1.2.2.2.1+(1:Int))),()),y.2.1,y.2.2.1,(y.2.2.2.1.set x z),()))
else
 some (.inr (((),(),(),()),y.2.1,y.2.2.1,y.2.2.2.1,()))
noncomputable def Ht:z6.J->Option (aH G5):=bA HI
theorem alk:aV O (ap (codeOf Tryz.f121) 1 122) (aX z6 G5 Ht):=bT uw (by kernel_rfl) ag fun y=>by kernel_rfl
abbrev zo:Shape:=⟨[e3 2 2 .u32,e3 4 4 .u32,e3 5 5 .u32,(12,.aq (.d (.int .u32))),(13,.aq (.d (.int .u32))),(14,.aq (.d (.int .u32))),(15,.aq (.d (.int .u32))),(16,.aq (.d (.int .u32))),(17,.aq (.d (.int .u32))),(18,.aq (.d (.int .u32))),(19,.aq (.d (.int .u32))),aj 122],[(2,.row .u32,.same),(4,.row .u32,.same),(5,.row .u32,.same)],208⟩
abbrev F7:List aR:=[(.exit 6,⟨[e3 2 2 .u32,e3 4 4 .u32,(12,.aq (.d (.int .u32))),(13,.aq (.d (.int .u32))),(14,.aq (.d (.int .u32))),(15,.aq (.d (.int .u32))),(16,.aq (.d (.int .u32))),(17,.aq (.d (.int .u32))),(18,.aq (.d (.int .u32))),(19,.aq (.d (.int .u32)))],[(2,.row .u32,.same),(4,.row .u32,.same)],208⟩)]
noncomputable def zC(y:zo.J):bQ zo F7:=
 bif(decide (y.1.2.2.2.2.2.2.2.2.2.2.2.1<(64:Int))) then
(f171 ((y.1.2.2.2.2.2.2.2.1,(6:Int),()),())).bind fun a=>
(f171 ((y.1.2.2.2.2.2.2.2.1,(11:Int),()),())).bind fun b=>
(f171 ((y.1.2.2.2.2.2.2.2.1,(25:Int),()),())).bind fun c=>
(aS i' y.1.2.2.2.2.2.2.2.2.2.2.2.1).bind fun d=>
((long 64 y.2.2.2.1).bind fun q=>bf q.length y.1.2.2.2.2.2.2.2.2.2.2.2.1).bind fun e=>
(y.2.2.2.1[e]?).bind fun f=>
(f171 ((y.1.2.2.2.1,(2:Int),()),())).bind fun g=>
(f171 ((y.1.2.2.2.1,(13:Int),()),())).bind fun h=>
(f171 ((y.1.2.2.2.1,(22:Int),()),())).bind fun i=>
 some (.inl (((),(),(),(IntKind.u32.wrap ((IntKind.u32.wrap ((IntKind.u32.wrap ((IntKind.u32.wrap ((IntKind.u32.wrap (y.1.2.2.2.2.2.2.2.2.2.2.1+(dB .u32 (dB .u32 a.1.1 b.1.1) c.1.1)))+(dB .u32 (e0 .u32 y.1.2.2.2.2.2.2.2.1 y.1.2.2.2.2.2.2.2.2.1) (e0 .u32 (dB .u32 4294967295 y.1.2.2.2.2.2.2.2.1) y.1.2.2.2.2.2.2.2.2.2.1))))+d))+f))+(IntKind.u32.wrap ((dB .u32 (dB .u32 g.1.1 h.1.1) i.1.1)+(dB .u32 (dB .u32 (e0 .u32 y.1.2.2.2.1 y.1.2.2.2.2.1) (e0 .u32 y.1.2.2.2.1 y.1.2.2.2.2.2.1)) (e0 .u32 y.1.2.2.2.2.1 y.1.2.2.2.2.2.1)))))),y.1.2.2.2.1,y.1.2.2.2.2.1,y.1.2.2.2.2.2.1,(IntKind.u32.wrap (y.1.2.2.2.2.2.2.1+(IntKind.u32.wrap ((IntKind.u32.wrap ((IntKind.u32.wrap ((IntKind.u32.wrap (y.1.2.2.2.2.2.2.2.2.2.2.1+(dB .u32 (dB .u32 a.1.1 b.1.1) c.1.1)))+(dB .u32 (e0 .u32 y.1.2.2.2.2.2.2.2.1 y.1.2.2.2.2.2.2.2.2.1) (e0 .u32 (dB .u32 4294967295 y.1.2.2.2.2.2.2.2.1) y.1.2.2.2.2.2.2.2.2.2.1))))+d))+f)))),y.1.2.2.2.2.2.2.2.1,y.1.2.2.2.2.2.2.2.2.1,y.1.2.2.2.2.2.2.2.2.2.1,(IntKind.i64.wrap (y.1.2.2.2.2.2.2.2.2.2.2.2.1+(1:Int))),()),y.2.1,y.2.2.1,y.2.2.2.1,()))
else
 some (.inr (((),(),y.1.2.2.2.1,y.1.2.2.2.2.1,y.1.2.2.2.2.2.1,y.1.2.2.2.2.2.2.1,y.1.2.2.2.2.2.2.2.1,y.1.2.2.2.2.2.2.2.2.1,y.1.2.2.2.2.2.2.2.2.2.1,y.1.2.2.2.2.2.2.2.2.2.2.1,()),y.2.1,y.2.2.1,()))
noncomputable def Gs:zo.J->Option (aH F7):=bA zC
theorem ajk:aV O (ap (codeOf Tryz.f121) 1 1018) (aX zo F7 Gs):=bT uw (by kernel_rfl) ag fun y=>by kernel_rfl
abbrev zn:Shape:=⟨[e3 2 2 .u32,e3 4 4 .u32,ck 195 [.d (.int .u32),.d (.int .u32),.d (.int .u32),.d (.int .u32),.d (.int .u32),.d (.int .u32),.d (.int .u32),.d (.int .u32)],aj 196],[(2,.row .u32,.same),(4,.row .u32,.same)],208⟩
abbrev F6:List aR:=[(.exit 8,⟨[e3 2 2 .u32,e3 4 4 .u32],[(2,.row .u32,.same),(4,.row .u32,.same)],208⟩)]
noncomputable def Rp(y:zn.J):bQ zn F6:=
 bif(decide (y.1.2.2.2.1<(8:Int))) then
(aS ([y.1.2.2.1.1,y.1.2.2.1.2.1,y.1.2.2.1.2.2.1,y.1.2.2.1.2.2.2.1,y.1.2.2.1.2.2.2.2.1,y.1.2.2.1.2.2.2.2.2.1,y.1.2.2.1.2.2.2.2.2.2.1,y.1.2.2.1.2.2.2.2.2.2.2.1]:List Int) y.1.2.2.2.1).bind fun a=>
((long 8 y.2.1).bind fun q=>bf q.length y.1.2.2.2.1).bind fun b=>
(y.2.1[b]?).bind fun c=>
((long 8 y.2.1).bind fun q=>bf q.length y.1.2.2.2.1).bind fun d=>
((y.2.1[d]?).bind fun q=>some (IntKind.u32.wrap (c+a))).bind fun e=>
 some (.inl (((),(),(y.1.2.2.1.1,y.1.2.2.1.2.1,y.1.2.2.1.2.2.1,y.1.2.2.1.2.2.2.1,y.1.2.2.1.2.2.2.2.1,y.1.2.2.1.2.2.2.2.2.1,y.1.2.2.1.2.2.2.2.2.2.1,y.1.2.2.1.2.2.2.2.2.2.2.1,()),(IntKind.i64.wrap (y.1.2.2.2.1+(1:Int))),()),(y.2.1.set d e),y.2.2.1,()))
else
 some (.inr (((),(),()),y.2.1,y.2.2.1,()))
noncomputable def Gr:zn.J->Option (aH F6):=bA Rp
theorem ajj:aV O (ap (codeOf Tryz.f121) 1 2042) (aX zn F6 Gr):=bT uw (by kernel_rfl) ag fun y=>by kernel_rfl
abbrev i121:Shape:=⟨[ck 0 [.d (.int .u32),.d (.int .u32),.d (.int .u32),.d (.int .u32),.d (.int .u32),.d (.int .u32),.d (.int .u32),.d (.int .u32)],aO 1 .u8],[],208⟩
abbrev Zw:Shape:=⟨[e3 4 4 .u32],[(4,.rD .u32 8,.same)],208⟩
noncomputable def f121(a:i121.J):Option Zw.J:=
(I_ ((a.1.2.1,(),(),(),(0:Int),()),([a.1.1.1,a.1.1.2.1,a.1.1.2.2.1,a.1.1.2.2.2.1,a.1.1.2.2.2.2.1,a.1.1.2.2.2.2.2.1,a.1.1.2.2.2.2.2.2.1,a.1.1.2.2.2.2.2.2.2.1]:List Int),(List.replicate 8 (0:Int)),(List.replicate 64 (0:Int)),())).bind fun b=>
(Ht (((),(),(),(16:Int),()),b.2.1,b.2.2.1,b.2.2.2.1,())).bind fun c=>
((long 8 c.2.1).bind fun q=>bf q.length (0:Int)).bind fun d=>
(c.2.1[d]?).bind fun e=>
((long 8 c.2.1).bind fun q=>bf q.length (1:Int)).bind fun f=>
(c.2.1[f]?).bind fun g=>
((long 8 c.2.1).bind fun q=>bf q.length (2:Int)).bind fun h=>
(c.2.1[h]?).bind fun i=>
((long 8 c.2.1).bind fun q=>bf q.length (3:Int)).bind fun j=>
(c.2.1[j]?).bind fun k=>
((long 8 c.2.1).bind fun q=>bf q.length (4:Int)).bind fun l=>
(c.2.1[l]?).bind fun m=>
((long 8 c.2.1).bind fun q=>bf q.length (5:Int)).bind fun n=>
(c.2.1[n]?).bind fun D=>
((long 8 c.2.1).bind fun q=>bf q.length (6:Int)).bind fun p=>
(c.2.1[p]?).bind fun r=>
((long 8 c.2.1).bind fun q=>bf q.length (7:Int)).bind fun s=>
(c.2.1[s]?).bind fun t=>
(Gs (((),(),(),e,g,i,k,m,D,r,t,(0:Int),()),c.2.1,c.2.2.1,c.2.2.2.1,())).bind fun u=>
(Gr (((),(),(u.1.2.2.1,u.1.2.2.2.1,u.1.2.2.2.2.1,u.1.2.2.2.2.2.1,u.1.2.2.2.2.2.2.1,u.1.2.2.2.2.2.2.2.1,u.1.2.2.2.2.2.2.2.2.1,u.1.2.2.2.2.2.2.2.2.2.1,()),(0:Int),()),u.2.1,u.2.2.1,())).bind fun v=>
(long 8 v.2.1).bind fun w=>
(long 8 v.2.2.1).bind fun x=>
((long 8 ([(w.getD 0 (0:Int)),(w.getD 1 (0:Int)),(w.getD 2 (0:Int)),(w.getD 3 (0:Int)),(w.getD 4 (0:Int)),(w.getD 5 (0:Int)),(w.getD 6 (0:Int)),(w.getD 7 (0:Int))]:List Int)).bind fun q=>some (q,())).bind fun z=>some (((),()),z)
noncomputable def aaB:aI:=aL af Tryz.f121 i121 Zw [] f121
theorem atg:aF O 121 aaB:=aM uw Tryz.func121 (by kernel_rfl) (a7 anD (a7 alk (a7 ajk (a7 ajj ag)))) (fun y=>by kernel_rfl) fun a=>by kernel_rfl
def gG(ws:List Int)(v:Int):List Int:=ws++v::List.replicate (63-ws.length) 0
def kO(ws:List Int):List Int:=ws++List.replicate (64-ws.length) 0
theorem Xp{ws:List Int}(h:ws.length<64):kO ws=gG ws 0:=by
 unfold kO gG;rw[show 64-ws.length=(63-ws.length)+1 by omega];rfl
theorem WM{ws:List Int}(h:ws.length<64)(v:Int):gG ws v=kO (ws++[v]):=by
 unfold kO gG;rw[dx,show 64-(ws.length+[v].length)=63-ws.length from by show 64-(ws.length+1)=_;omega,List.append_assoc]
 rfl
theorem UF{ws:List Int}(h:ws.length<64)(v:Int):(gG ws v).length=64:=by unfold gG;simp;omega
theorem Bg{aE:Type}{n:Nat}{xs:List aE}(h:xs.length=n):long n xs=some xs:=by unfold long;rw[if_pos h]
theorem UG{ws:List Int}(h:ws.length<64)(v:Int){k:Nat}(hk:k<64):((long 64 (gG ws v)).bind fun q=>bf q.length (k:Int))=some k:=by
 rw[Bg (UF h v)];exact fP (by rw[UF h];exact hk)
theorem wj(ws:List Int)(v:Int):(gG ws v)[ws.length]? =some v:=by unfold gG;rw[List.getElem?_append_right (Nat.le_refl _)];simp
theorem BU{ws:List Int}{v:Int}{k:Nat}(h:k<ws.length):(gG ws v)[k]? =some (gb ws k):=by
 unfold gG;rw[List.getElem?_append_left h];exact mB h
theorem wi(ws:List Int)(v u:Int):(gG ws v).set ws.length u=gG ws u:=by unfold gG;rw[List.set_append_right _ _ (Nat.le_refl _)];simp
theorem ari(b:List Int):∀(ws:List Int) (i:Nat) (c0 c1 c2 c3:Int) (r0 r1:List Int),ws.length=i->i<64->
  FK ((b,((),((),((),((i:Int),((i:Int),(([c0,c1,c2,c3]:List Int),((([c0,c1,c2,c3]:List Int).length:Int),((0:Int),()))))))))),(r0,(r1,(gG ws 0,()))))=
  some ((b,((),((),((),((i:Int),()))))),(r0,(r1,(gG ws (hM (hM (hM (hM 0 c0) c1) c2) c3),())))):=by
 intro ws i c0 c1 c2 c3 r0 r1 hw hi;subst hw;refine gd (g:=qM) (fun j=>((b,((),((),((),((ws.length:Int),((ws.length:Int),(([c0,c1,c2,c3]:List Int),((([c0,c1,c2,c3]:List Int).length:Int),((j:Int),()))))))))),
  (r0,(r1,(gG ws (match j with|0=>0|1=>hM 0 c0|2=>hM (hM 0 c0) c1|3=>hM (hM (hM 0 c0) c1) c2|_=>hM (hM (hM (hM 0 c0) c1) c2) c3),()))))) 4 (fun j hj=>?_) ?_ 4 0 rfl
 ·have hx:∀v:Int,((long 64 (gG ws v)).bind fun q=>bf q.length (ws.length:Int))=some ws.length:=fun v=>UG hi v hi
  have:j=0\/j=1\/j=2\/j=3:=by omega
  have n0:IntKind.i64.wrap (((0:Nat):Int)+1)=((0+1:Nat):Int):=rfl;have n1:IntKind.i64.wrap (((1:Nat):Int)+1)=((1+1:Nat):Int):=rfl;have n2:IntKind.i64.wrap (((2:Nat):Int)+1)=((2+1:Nat):Int):=rfl;have je:IntKind.i64.wrap (((3:Nat):Int)+1)=((3+1:Nat):Int):=rfl;have c:∀k:Nat,k<4->decide (((k:Nat):Int)<(([c0,c1,c2,c3]:List Int).length:Int))=true:=fun k hk=>by simp;omega
  have eU:aS ([c0,c1,c2,c3]:List Int) ((0:Nat):Int)=some c0:=rfl;have ep:aS ([c0,c1,c2,c3]:List Int) ((1:Nat):Int)=some c1:=rfl;have gr:aS ([c0,c1,c2,c3]:List Int) ((2:Nat):Int)=some c2:=rfl;have jX:aS ([c0,c1,c2,c3]:List Int) ((3:Nat):Int)=some c3:=rfl;rcases this with rfl|rfl|rfl|rfl
  ·simp only[qM,c 0 (by omega),ad,hx,wj,wi,Y,w4,n0,eU];rfl
  ·simp only[qM,c 1 (by omega),ad,hx,wj,wi,Y,w4,n1,ep];rfl
  ·simp only[qM,c 2 (by omega),ad,hx,wj,wi,Y,w4,n2,gr];rfl
  ·simp only[qM,c 3 (by omega),ad,hx,wj,wi,Y,w4,je,jX];rfl
 ·have:decide (((4:Nat):Int)<(([c0,c1,c2,c3]:List Int).length:Int))=false:=rfl;simp only[qM,this,ak]
theorem arm(b:List Int)(hb:sq b):∀r0 r1:List Int,I_ ((b,((),((),((),((0:Int),()))))),(r0,(r1,(List.replicate 64 (0:Int),()))))=some (((),((),((),()))),(r0,(r1,(kO (cG b 16),())))):=by
 intro r0 r1;refine gd (g:=Jt) (fun i=>((b,((),((),((),((i:Int),()))))),(r0,(r1,(kO (cG b i),()))))) 16 (fun i hi=>?_) rfl 16 0 rfl
 have hl:decide ((i:Int)<16)=true:=by simp;omega
 have hlen:=oy b i;have aa:decide (i<16)=true:=by simpa using hi
 have ni:IntKind.i64.wrap (((4*i:Nat):Int)+4)=((4*i+4:Nat):Int):=by have:=lu (i:=i) (by omega) 4 (by omega);rwa[uB (by omega)] at this
 have hs:bq b ((4*i:Nat):Int) ((4*i+4:Nat):Int)=some [gb b (4*i),gb b (4*i+1),gb b (4*i+2),gb b (4*i+3)]:=by
  rw[qV (by omega) (by rw[hb.1];omega)]
  congr 1
  apply List.ext_getElem?;intro j;rw[List.getElem?_drop,List.getElem?_take];by_cases hj:j<4
  ·rw[if_pos (by omega),mB (by rw[hb.1];omega)]
   have:j=0\/j=1\/j=2\/j=3:=by omega
   rcases this with rfl|rfl|rfl|rfl<;>rfl
  ·rw[if_neg (by omega)]
   rw[List.getElem?_eq_none (by simp;omega)]
 have hw:=amp (hb.qA (j:=4*i) (by omega)) (hb.qA (j:=4*i+1) (by omega)) (hb.qA (j:=4*i+2) (by omega)) (hb.qA (j:=4*i+3) (by omega))
 have Ew:=ari b (cG b i) i (gb b (4*i)) (gb b (4*i+1)) (gb b (4*i+2)) (gb b (4*i+3)) r0 r1 hlen (by omega)
 rw[hw] at Ew;have hf:=Xp (ws:=cG b i) (by omega)
 have hn:kO (cG b (i+1))=gG (cG b i) (wd (gb b (4*i)) (gb b (4*i+1)) (gb b (4*i+2)) (gb b (4*i+3))):=by rw[WM (by omega)];simp only[cG,aa,ad]
 simp only[Jt,hl,ad,uB (i:=i) (by omega),ni,hs,Y,hf,Ew,hn,wp (i:=i) (by omega)]
theorem arl(b:List Int):∀r0 r1:List Int,Ht (((),((),((),((16:Int),())))),(r0,(r1,(kO (cG b 16),()))))=some (((),((),((),()))),(r0,(r1,(kO (cG b 64),())))):=by
 have t2:=fun x=>ie x 2 (by simp[fc]);have t6:=fun x=>ie x 6 (by simp[fc]);have t11:=fun x=>ie x 11 (by simp[fc])
 have t13:=fun x=>ie x 13 (by simp[fc]);have t22:=fun x=>ie x 22 (by simp[fc]);have t25:=fun x=>ie x 25 (by simp[fc])
 have t7:=fun x=>ie x 7 (by simp[fc]);have t18:=fun x=>ie x 18 (by simp[fc]);have t17:=fun x=>ie x 17 (by simp[fc]);have t19:=fun x=>ie x 19 (by simp[fc])
 intro r0 r1;refine gd (g:=HI) (fun i=>(((),((),((),(((16+i:Nat):Int),())))),(r0,(r1,(kO (cG b (16+i)),()))))) 48 (fun i hi=>?_) rfl 48 0 rfl
 have hl:decide (((16+i:Nat):Int)<64)=true:=by simp;omega
 have hlen:=oy b (16+i);have aa:decide (16+i<16)=false:=by simp
 have hf:=Xp (ws:=cG b (16+i)) (by omega)
 have hs:kO (cG b (16+(i+1)))=gG (cG b (16+i)) (w8 (cG b (16+i)) (16+i)):=by
  show kO (cG b ((16+i)+1))=_;rw[WM (by omega)];simp only[cG,aa,ak]
 have azv:=qD (i:=16+i) (q:=15) 15 rfl (by omega) (by omega)
 have e2:=qD (i:=16+i) (q:=2) 2 rfl (by omega) (by omega)
 have azu:=qD (i:=16+i) (q:=16) 16 rfl (by omega) (by omega)
 have oc:=qD (i:=16+i) (q:=7) 7 rfl (by omega) (by omega)
 have hx:∀k:Nat,k<64->((long 64 (gG (cG b (16+i)) 0)).bind fun q=>bf q.length (k:Int))=some k:=fun k hk=>UG (by omega) _ hk
 have g15:=BU (ws:=cG b (16+i)) (v:=0) (k:=16+i-15) (by omega)
 have g2:=BU (ws:=cG b (16+i)) (v:=0) (k:=16+i-2) (by omega)
 have g16:=BU (ws:=cG b (16+i)) (v:=0) (k:=16+i-16) (by omega)
 have g7:=BU (ws:=cG b (16+i)) (v:=0) (k:=16+i-7) (by omega)
 have lz:(gG (cG b (16+i)) 0)[16+i]? =some 0:=by have:=wj (cG b (16+i)) 0;rwa[hlen] at this
 have gs:∀u,(gG (cG b (16+i)) 0).set (16+i) u=gG (cG b (16+i)) u:=fun u=>by have:=wi (cG b (16+i)) 0 u;rwa[hlen] at this
 simp only[HI,hl,ad,hf,azv,e2,azu,oc,hx (16+i-15) (by omega),hx (16+i-2) (by omega),hx (16+i-16) (by omega),hx (16+i-7) (by omega),hx (16+i) (by omega),g15,g2,g16,g7,lz,gs,Y,t7,t18,t17,t19,XR,WQ,wp (i:=16+i) (by omega),hs,w8,MA,Mz]
 rfl
theorem ark(R:Nat->cB)(W:List Int)(hW:W.length=64)(hR:∀i,R (i+1)=w5 (gb i' i) (gb W i) (R i))(r0 r1:List Int):Gs (((),((),((),((R 0).a,((R 0).b,((R 0).c,((R 0).d,((R 0).e,((R 0).f,((R 0).g,((R 0).h,((0:Int),())))))))))))),(r0,(r1,(W,()))))=
  some (((),((),((R 64).a,((R 64).b,((R 64).c,((R 64).d,((R 64).e,((R 64).f,((R 64).g,((R 64).h,())))))))))),(r0,(r1,()))):=by
 have t2:=fun x=>ie x 2 (by simp[fc]);have t6:=fun x=>ie x 6 (by simp[fc]);have t11:=fun x=>ie x 11 (by simp[fc])
 have t13:=fun x=>ie x 13 (by simp[fc]);have t22:=fun x=>ie x 22 (by simp[fc]);have t25:=fun x=>ie x 25 (by simp[fc])
 have t7:=fun x=>ie x 7 (by simp[fc]);have t18:=fun x=>ie x 18 (by simp[fc]);have t17:=fun x=>ie x 17 (by simp[fc]);have t19:=fun x=>ie x 19 (by simp[fc])
 refine gd (g:=zC) (fun i=>(((),((),((),((R i).a,((R i).b,((R i).c,((R i).d,((R i).e,((R i).f,((R i).g,((R i).h,((i:Int),())))))))))))),(r0,(r1,(W,()))))) 64 (fun i hi=>?_) ?_ 64 0 rfl
 ·have hl:decide ((i:Int)<64)=true:=by simp;omega
  have g1:=wR (b:=i') (j:=i) (by rw[IE];exact hi)
  have hx:((long 64 W).bind fun q=>bf q.length (i:Int))=some i:=by rw[Bg hW];exact fP (by rw[hW];exact hi)
  have g2:=mB (b:=W) (j:=i) (by rw[hW];exact hi)
  rw[hR i];generalize R i=s;simp only[zC,hl,ad,g1,hx,g2,Y,t2,t6,t11,t13,t22,t25,wp (i:=i) (by omega),w5,D_,NC,ND,NB,MF]
 ·have:decide (((64:Nat):Int)<64)=false:=rfl;simp only[zC,this,ak]
theorem arj(h:cB):∀(s:cB) (r1:List Int),Gr (((),((),((s.a,(s.b,(s.c,(s.d,(s.e,(s.f,(s.g,(s.h,())))))))),((0:Int),())))),(h.list,(r1,())))=some (((),((),())),((DI h s).list,(r1,()))):=by
 intro s r1;refine gd (g:=Rp) (fun i=>(((),((),((s.a,(s.b,(s.c,(s.d,(s.e,(s.f,(s.g,(s.h,())))))))),((i:Int),())))),((DI h s).list.take i++h.list.drop i,(r1,())))) 8 (fun i hi=>?_) rfl 8 0 rfl
 have:i=0\/i=1\/i=2\/i=3\/i=4\/i=5\/i=6\/i=7:=by omega
 rcases this with rfl|rfl|rfl|rfl|rfl|rfl|rfl|rfl<;>(show _=_;kernel_rfl)
theorem ag6(h:cB)(b:List Int)(hb:sq b):f121 (((h.a,(h.b,(h.c,(h.d,(h.e,(h.f,(h.g,(h.h,())))))))),(b,())),())=some (((),()),((xl h b).list,())):=by
 have aG:=arm b hb;have aK:=arl b;have qw:kO (cG b 64)=cG b 64:=by unfold kO;rw[oy];simp
 have bP:=ark (mS h (cG b 64)) (cG b 64) (oy b 64) (fun _=>rfl)
 have e1:(mS h (cG b 64) 0)=h:=rfl;rw[e1] at bP;have cU:=arj h;have ee:∀s:cB,s.list.length=8:=fun s=>rfl
 have hx:∀k:Nat,k<8->((long 8 h.list).bind fun q=>bf q.length (k:Int))=some k:=fun k hk=>by rw[Bg (ee h)];exact fP (by rw[ee];exact hk)
 have z0:=hx 0 (by omega);have gq:=hx 1 (by omega);have z2:=hx 2 (by omega);have z3:=hx 3 (by omega)
 have z4:=hx 4 (by omega);have z5:=hx 5 (by omega);have N0:=hx 6 (by omega);have ET:=hx 7 (by omega)
 have fe:([h.a,h.b,h.c,h.d,h.e,h.f,h.g,h.h]:List Int)=h.list:=rfl;have dT:h.list[0]? =some h.a:=rfl;have cV:h.list[1]? =some h.b:=rfl;have dD:h.list[2]? =some h.c:=rfl;have dZ:h.list[3]? =some h.d:=rfl;have ix:h.list[4]? =some h.e:=rfl;have fb:h.list[5]? =some h.f:=rfl;have fo:h.list[6]? =some h.g:=rfl;have N3:h.list[7]? =some h.h:=rfl;simp only[Int.cast_ofNat_Int,Int.natCast_zero] at z0 gq z2 z3 z4 z5 N0 ET;simp only[f121,fe,aG,aK,qw,Y,z0,gq,z2,z3,z4,z5,N0,ET,dT,cV,dD,dZ,ix,fb,fo,N3,bP,cU];rw[Bg (ee _)];rfl
abbrev AF:Shape:=⟨[am 0,bd 3 3000192],[bc 3000192 .u8 3 0],33⟩
abbrev H6:List aR:=[(.exit 0,⟨[am 0,bd 3 3000192],[bc 3000192 .u8 3 0],33⟩)]
noncomputable def Bp(y:AF.J):bQ AF H6:=
(ja (y.2.1.length:Int) (64:Int)).bind fun a=>
 bif(a !=(56:Int)) then
(cm 1 y.2.1 ([(0:Int)]:List Int)).bind fun b=>
 some (.inl ((y.1.1,(),()),b,()))
else
 some (.inr ((y.1.1,(),()),y.2.1,()))
noncomputable def IT:AF.J->Option (aH H6):=bA Bp
theorem amX:aV O (ap (codeOf Tryz.f256) 1 28) (aX AF H6 IT):=bT g0 (by kernel_rfl) ag fun y=>by kernel_rfl
abbrev zS:Shape:=⟨[bd 3 3000192,aj 4,aj 5],[bc 3000192 .u8 3 0],33⟩
abbrev GY:List aR:=[(.exit 2,⟨[bd 3 3000192],[bc 3000192 .u8 3 0],33⟩)]
noncomputable def HG(y:zS.J):bQ zS GY:=
 bif(decide (y.1.2.2.1>=(0:Int))) then
(fE .i64 y.1.2.1 (IntKind.i64.wrap ((8:Int)*y.1.2.2.1))).bind fun a=>
(cm 1 y.2.1 ([(IntKind.u8.wrap a)]:List Int)).bind fun b=>
 some (.inl (((),y.1.2.1,(IntKind.i64.wrap (y.1.2.2.1-(1:Int))),()),b,()))
else
 some (.inr (((),()),y.2.1,()))
noncomputable def Hm:zS.J->Option (aH GY):=bA HG
theorem ak2:aV O (ap (codeOf Tryz.f256) 1 250) (aX zS GY Hm):=bT g0 (by kernel_rfl) ag fun y=>by kernel_rfl
abbrev i256:Shape:=⟨[am 0],[],33⟩
abbrev Yd:Shape:=⟨[bd 2 3000128],[bc 3000128 .u8 2 0],33⟩
noncomputable def f256(a:i256.J):Option Yd.J:=
(if a.1.1.length<=maxLen then some () else none).bind fun b=>
(cm 1 (bytesOf a.1.1) ([(128:Int)]:List Int)).bind fun c=>
(IT ((a.1.1,(),()),c,())).bind fun d=>
(Hm (((),(IntKind.i64.wrap ((d.1.1.length:Int)*(8:Int))),(7:Int),()),d.2.1,())).bind fun e=>
 some (((),()),e.2.1,())
noncomputable def _y:aI:=aL af Tryz.f256 i256 Yd [] f256
theorem asy:aF O 256 _y:=aM g0 Tryz.func256 (by kernel_rfl) (a7 amX (a7 ak2 ag)) (fun y=>by kernel_rfl) fun a=>by kernel_rfl
noncomputable abbrev ava:a8:=[(256,_y),(257,_x)]
theorem Me:aT O (aZ af ava):=aY ⟨asy,asx,⟨⟩⟩
abbrev zU:Shape:=⟨[bd 3 3000192,aO 4 .u8,aj 5],[bc 3000192 .u32 3 0],57⟩
abbrev G0:List aR:=[(.exit 0,⟨[bd 3 3000192],[bc 3000192 .u32 3 0],57⟩)]
noncomputable def Al(y:zU.J):bQ zU G0:=
 bif(decide (y.1.2.2.1<(y.1.2.1.length:Int))) then
(bq y.1.2.1 y.1.2.2.1 (IntKind.i64.wrap (y.1.2.2.1+(64:Int)))).bind fun a=>
(f257 ((y.2.1,a,()),())).bind fun b=>
 some (.inl (((),y.1.2.1,(IntKind.i64.wrap (y.1.2.2.1+(64:Int))),()),b.2.1,()))
else
 some (.inr (((),()),y.2.1,()))
noncomputable def Ho:zU.J->Option (aH G0):=bA Al
theorem ak9:aV O (ap (codeOf Tryz.f220) 1 122) (aX zU G0 Ho):=bT Me (by kernel_rfl) ag fun y=>by kernel_rfl
abbrev zT:Shape:=⟨[bd 3 3000192,bd 6 3000384,aj 7],[bc 3000192 .u32 3 0,bc 3000384 .u8 6 0],57⟩
abbrev GZ:List aR:=[(.exit 2,⟨[bd 6 3000384],[bc 3000384 .u8 6 0],57⟩)]
noncomputable def SL(y:zT.J):bQ zT GZ:=
 bif(decide (y.1.2.2.1<(8:Int))) then
(bf y.2.1.length y.1.2.2.1).bind fun a=>
(y.2.1[a]?).bind fun b=>
(fE .u32 b (24:Int)).bind fun c=>
(bf y.2.1.length y.1.2.2.1).bind fun d=>
(y.2.1[d]?).bind fun e=>
(fE .u32 e (16:Int)).bind fun f=>
(bf y.2.1.length y.1.2.2.1).bind fun g=>
(y.2.1[g]?).bind fun h=>
(fE .u32 h (8:Int)).bind fun i=>
(bf y.2.1.length y.1.2.2.1).bind fun j=>
(y.2.1[j]?).bind fun k=>
(cm 1 y.2.2.1 ([(IntKind.u8.wrap c),(IntKind.u8.wrap f),(IntKind.u8.wrap i),(IntKind.u8.wrap k)]:List Int)).bind fun l=>
 some (.inl (((),(),(IntKind.i64.wrap (y.1.2.2.1+(1:Int))),()),y.2.1,l,()))
else
 some (.inr (((),()),y.2.2.1,()))
noncomputable def Hn:zT.J->Option (aH GZ):=bA SL
theorem ak8:aV O (ap (codeOf Tryz.f220) 1 506) (aX zT GZ Hn):=bT Me (by kernel_rfl) ag fun y=>by kernel_rfl
abbrev i220:Shape:=⟨[am 0],[],57⟩
abbrev Yq:Shape:=⟨[am 2],[],57⟩
noncomputable def f220(a:i220.J):Option Yq.J:=
(f256 ((a.1.1,()),())).bind fun b=>
(Ho (((),b.2.1,(0:Int),()),([(1779033703:Int),(3144134277:Int),(1013904242:Int),(2773480762:Int),(1359893119:Int),(2600822924:Int),(528734635:Int),(1541459225:Int)]:List Int),())).bind fun c=>
(Hn (((),(),(0:Int),()),c.2.1,([]:List Int),())).bind fun d=>
 some (((strOf d.2.1),()),())
noncomputable def _J:aI:=aL af Tryz.f220 i220 Yq [] f220
theorem asE:aF O 220 _J:=aM Me Tryz.func220 (by kernel_rfl) (a7 ak9 (a7 ak8 ag)) (fun y=>by kernel_rfl) fun a=>by kernel_rfl
def kL(n:Nat):Nat:=(120-n%64)%64
def kE(n:Int):List Int:=[IntKind.u8.wrap (n.fdiv (2^56)),IntKind.u8.wrap (n.fdiv (2^48)),IntKind.u8.wrap (n.fdiv (2^40)),IntKind.u8.wrap (n.fdiv (2^32)),IntKind.u8.wrap (n.fdiv (2^24)),IntKind.u8.wrap (n.fdiv (2^16)),IntKind.u8.wrap (n.fdiv (2^8)),IntKind.u8.wrap (n.fdiv (2^0))]
def jL(s:B):List Int:=(bytesOf s++[128])++List.replicate (kL (s.length+1)) 0
def eM(s:B):List Int:=jL s++kE ((s.length:Int)*8)
theorem jB(s:B):(bytesOf s).length=s.length:=by simp[bytesOf]
theorem wh(n:Nat):kL n<64:=Nat.mod_lt _ (by decide)
theorem HR(n:Nat):(n+kL n)%64=56:=by unfold kL;omega
theorem SX(n j:Nat)(h:j<kL n):(n+j)%64≠56:=by unfold kL at h;omega
theorem Hc(s:B):(jL s).length=s.length+1+kL (s.length+1):=by simp[jL,jB];omega
theorem z'(s:B):(eM s).length=s.length+1+kL (s.length+1)+8:=by simp[eM,Hc,kE]
theorem aoZ(x:Int):kQ (IntKind.u8.wrap x):=by rw[IntKind.wrap_u8];constructor<;>omega
theorem St(s:B):∀x,x∈eM s->kQ x:=by
 intro x hx;rcases bo.1 hx with h|h
 ·rcases bo.1 h with h|h
  ·rcases bo.1 h with h|h
   ·obtain⟨b,_,rfl⟩:=List.mem_map.1 h;have:=b.toNat_lt;constructor<;>omega
   ·rw[List.mem_singleton.1 h];decide
  ·rw[(List.mem_replicate.1 h).2];decide
 ·simp only[kE,bR,List.not_mem_nil,or_false] at h;rcases h with rfl|rfl|rfl|rfl|rfl|rfl|rfl|rfl<;>exact aoZ _
def rO(d:List Int)(k:Nat):List Int:=(d.take (64*k+64)).drop (64*k)
theorem Uv{d:List Int}{k:Nat}(h:64*k+64<=d.length)(hb:∀x,x∈d->kQ x):sq (rO d k):=
 ⟨by unfold rO;simp;omega,fun x hx=>hb x (List.mem_of_mem_take (List.mem_of_mem_drop hx))⟩
def yL:cB:=⟨1779033703,3144134277,1013904242,2773480762,1359893119,2600822924,528734635,1541459225⟩
def uK(d:List Int):Nat->cB
 |0=>yL
 |k+1=>xl (uK d k) (rO d k)
def e5(s:B):cB:=uK (eM s) ((eM s).length/64)
theorem IH(s:B):64*((eM s).length/64)=(eM s).length:=by
 have:=HR (s.length+1);rw[z'];omega
theorem C0(n:Nat):ja (n:Int) 64=some ((n%64:Nat):Int):=by
 rw[oI (by omega) (by omega)];simp
theorem SQ(n:Nat)(d:List Int):d++List.replicate n 0++[0]=d++List.replicate (n+1) 0:=by
 rw[List.append_assoc,<-List.replicate_succ']
theorem are{x:Int}{k:Nat}(h:k<=64):fE .i64 x (k:Int)=some (x.fdiv (2^k)):=by
 unfold fE;rw[if_neg (by omega),Int.toNat_natCast,show IntKind.i64.bits=64 from rfl,Nat.min_eq_left h]
theorem ao3{x:Int}{k:Nat}(h:k<=64):fE .u64 x (k:Int)=some (x.fdiv (2^k)):=by
 unfold fE;rw[if_neg (by omega),Int.toNat_natCast,show IntKind.u64.bits=64 from rfl,Nat.min_eq_left h]
theorem Ri(n:Int){i:Nat}(h:i<8):(kE n).take (i+1)=(kE n).take i++[IntKind.u8.wrap (n.fdiv (2^(8*(7-i))))]:=by
 have:i=0\/i=1\/i=2\/i=3\/i=4\/i=5\/i=6\/i=7:=by omega
 rcases this with rfl|rfl|rfl|rfl|rfl|rfl|rfl|rfl<;>rfl
abbrev qG(s:B):Prop:=s.length<=1073741824
theorem aha(s:B)(h:qG s):f256 ((s,()),())=some (((),()),(eM s,())):=by
 have hm:(if s.length<=maxLen then some () else none)=some ():=if_pos (by unfold maxLen;omega)
 have ha:cm 1 (bytesOf s) ([128]:List Int)=some (bytesOf s++[128]):=dw (by decide) (by unfold aA;rw[jB];simp;omega)
 have aG:IT ((s,((),())),(bytesOf s++[128],()))=some ((s,((),())),(jL s,())):=by
  have hz:=wh (s.length+1);have r4:∀i:Nat,(bytesOf s++[128]++List.replicate i (0:Int)).length=s.length+1+i:=fun i=>by simp[jB];omega
  have:=gd (g:=Bp) (fun i=>((s,((),())),(bytesOf s++[128]++List.replicate i (0:Int),()))) (kL (s.length+1)) (b:=((s,((),())),(jL s,()))) (fun i hi=>?_) ?_ (kL (s.length+1)) 0 (by omega)
  ·rw[List.replicate_zero,List.append_nil] at this;exact this
  ·have hne:((((s.length+1+i)%64:Nat):Int) !=56)=true:=by have:=SX (s.length+1) i hi;rw[bne_iff_ne];omega
   simp only[Bp,r4,C0,Y,hne,ad];rw[dw (by decide) (by unfold aA;rw[r4];simp;omega)]
   simp only[Y,SQ]
  ·have hne:((((s.length+1+kL (s.length+1))%64:Nat):Int) !=56)=false:=by have:=HR (s.length+1);rw[this];rfl
   simp only[Bp,r4,C0,Y,hne,ak];rfl
 have aK:∀n:Int,Hm (((),(n,((7:Int),()))),(jL s,()))=some (((),()),(jL s++kE n,())):=by
  intro n;have:=gd (g:=HG) (fun i=>(((),(n,((7-(i:Int)),()))),(jL s++(kE n).take i,()))) 8 (b:=(((),()),(jL s++kE n,()))) (fun i hi=>?_) rfl 8 0 rfl
  ·rw[show(7:Int)-((0:Nat):Int)=7 from rfl,List.take_zero,List.append_nil] at this;exact this
  ·have hl:decide ((7-(i:Int))>=0)=true:=by simp;omega
   have hw:IntKind.i64.wrap (8*(7-(i:Int)))=((8*(7-i):Nat):Int):=by rw[c5 (by omega) (by omega)];omega
   have hs:IntKind.i64.wrap (7-(i:Int)-1)=7-((i+1:Nat):Int):=by rw[c5 (by omega) (by omega)];omega
   simp only[HG,hl,ad,hw,are (x:=n) (k:=8*(7-i)) (by omega),Y,hs]
   rw[dw (by decide) (by unfold aA;simp[Hc,kE];have:=wh (s.length+1);omega)]
   simp only[Y,List.append_assoc,Ri n hi]
 have hn:IntKind.i64.wrap ((s.length:Int)*8)=(s.length:Int)*8:=c5 (by omega) (by omega)
 simp only[f256,hm,ha,Y,aG,hn,aK];rfl
theorem amu(s:B)(h:qG s):f220 ((s,()),())=some ((strOf ((e5 s).list.flatMap fun w=>[IntKind.u8.wrap (w.fdiv (2^24)),IntKind.u8.wrap (w.fdiv (2^16)),IntKind.u8.wrap (w.fdiv (2^8)),IntKind.u8.wrap w]),()),()):=by
 have ee:=IH s;have hlen:=z' s;have hz:=wh (s.length+1);have km:=St s;have aG:Ho (((),(eM s,((0:Int),()))),(yL.list,()))=some (((),()),((e5 s).list,())):=by
  refine gd (g:=Al) (fun k=>(((),(eM s,(((64*k:Nat):Int),()))),((uK (eM s) k).list,()))) ((eM s).length/64) (fun k hk=>?_) ?_ ((eM s).length/64) 0 (by omega)
  ·have hk2:64*k+64<=(eM s).length:=by omega
   have hl:decide (((64*k:Nat):Int)<((eM s).length:Int))=true:=by simp;omega
   have hw:IntKind.i64.wrap (((64*k:Nat):Int)+64)=((64*k+64:Nat):Int):=by rw[c5 (by omega) (by omega)];omega
   have hs:bq (eM s) ((64*k:Nat):Int) ((64*k+64:Nat):Int)=some (rO (eM s) k):=qV (by omega) hk2
   have hb:=aip (uK (eM s) k) (rO (eM s) k) (Uv hk2 km);simp only[Al,hl,ad,hw,hs,Y,hb];rfl
  ·have hl:decide (((64*((eM s).length/64):Nat):Int)<((eM s).length:Int))=false:=by simp;omega
   simp only[Al,hl,ak];rfl
 have aK:∀q:cB,Hn (((),((),((0:Int),()))),(q.list,(([]:List Int),())))=some (((),()),((q.list.flatMap fun w=>[IntKind.u8.wrap (w.fdiv (2^24)),IntKind.u8.wrap (w.fdiv (2^16)),IntKind.u8.wrap (w.fdiv (2^8)),IntKind.u8.wrap w]),())):=by
  intro q;refine gd (g:=SL) (fun i=>(((),((),((i:Int),()))),(q.list,((q.list.take i).flatMap fun w=>[IntKind.u8.wrap (w.fdiv (2^24)),IntKind.u8.wrap (w.fdiv (2^16)),IntKind.u8.wrap (w.fdiv (2^8)),IntKind.u8.wrap w],())))) 8 (fun i hi=>?_) rfl 8 0 rfl
  have:i=0\/i=1\/i=2\/i=3\/i=4\/i=5\/i=6\/i=7:=by omega
  rcases this with rfl|rfl|rfl|rfl|rfl|rfl|rfl|rfl<;>(show _=_;kernel_rfl)
 have jZ:=aha s h;have fe:([1779033703,3144134277,1013904242,2773480762,1359893119,2600822924,528734635,1541459225]:List Int)=yL.list:=rfl;simp only[f220,jZ,Y,fe,aG,aK]
abbrev V7:Shape:=⟨[ax 0 500000 0,(1,.aq (.d (.int .u8)))],[bv 37000001 .u8 500000 1,aw 500000 [.dM,.own 37000001]],17⟩
abbrev VC:Shape:=⟨[ax 0 500000 0,(4,.aq (.Dv))],[bv 37000001 .u8 500000 1,aw 500000 [.dM,.own 37000001]],17⟩
noncomputable def Kq(a:V7.J):Option VC.J:=
(cm 1 a.2.1 ([a.1.2.1]:List Int)).bind fun b=>
 some (((),(),()),b,((),(),()),())
noncomputable def WA:aI:=aL af Tryz.f122 V7 VC [0] Kq
theorem aoO:aF O 122 WA:=aM g0 Tryz.func122 (by kernel_rfl) ag (fun y=>by kernel_rfl) fun a=>by kernel_rfl
abbrev zV:Shape:=⟨[am 0,am 3,bd 4 3000256,aj 5],[bc 3000256 .u8 4 0],30⟩
abbrev G1:List aR:=[(.exit 0,⟨[bd 4 3000256],[bc 3000256 .u8 4 0],30⟩)]
noncomputable def Am(y:zV.J):bQ zV G1:=
 bif(decide (y.1.2.2.2.1<(y.1.1.length:Int))) then
(aS y.1.1 y.1.2.2.2.1).bind fun a=>
(l5 .u8 (a.toNat:Int) (16:Int)).bind fun b=>
(aS y.1.2.1 b).bind fun c=>
(aS y.1.1 y.1.2.2.2.1).bind fun d=>
(ja (d.toNat:Int) (16:Int)).bind fun e=>
(aS y.1.2.1 e).bind fun f=>
(cm 1 y.2.1 ([(c.toNat:Int),(f.toNat:Int)]:List Int)).bind fun g=>
 some (.inl ((y.1.1,y.1.2.1,(),(IntKind.i64.wrap (y.1.2.2.2.1+(1:Int))),()),g,()))
else
 some (.inr (((),()),y.2.1,()))
noncomputable def Hp:zV.J->Option (aH G1):=bA Am
theorem ala:aV O (ap (codeOf Tryz.f219) 1 122) (aX zV G1 Hp):=bT g0 (by kernel_rfl) ag fun y=>by kernel_rfl
abbrev i219:Shape:=⟨[am 0],[],30⟩
abbrev Yr:Shape:=⟨[am 2],[],30⟩
noncomputable def f219(a:i219.J):Option Yr.J:=
(Hp ((a.1.1,([48,49,50,51,52,53,54,55,56,57,97,98,99,100,101,102]:B),(),(0:Int),()),([]:List Int),())).bind fun b=>
 some (((strOf b.2.1),()),())
noncomputable def _K:aI:=aL af Tryz.f219 i219 Yr [] f219
theorem asF:aF O 219 _K:=aM g0 Tryz.func219 (by kernel_rfl) (a7 ala ag) (fun y=>by kernel_rfl) fun a=>by kernel_rfl
noncomputable abbrev avx:a8:=[(219,_K),(220,_J)]
theorem awC:aT O (aZ af avx):=aY ⟨asF,asE,⟨⟩⟩
abbrev i173:Shape:=⟨[am 0],[],7⟩
abbrev YX:Shape:=⟨[am 2],[],7⟩
noncomputable def f173(a:i173.J):Option YX.J:=
(f220 ((a.1.1,()),())).bind fun b=>
(f219 ((b.1.1,()),())).bind fun c=>
(bq c.1.1 (0:Int) (16:Int)).bind fun d=>
 some ((d,()),())
noncomputable def _8:aI:=aL af Tryz.f173 i173 YX [] f173
theorem z173:aF O 173 _8:=aM awC Tryz.func173 (by kernel_rfl) ag (fun y=>by kernel_rfl) fun a=>by kernel_rfl
noncomputable abbrev aAd:a8:=[(121,aaB),(122,WA)]
theorem u7:aT O (aZ af aAd):=aY ⟨atg,aoO,⟨⟩⟩
abbrev Ca:Shape:=⟨[am 0,e3 3 3 .u32,bd 4 3000256],[(3,.row .u32,.same),bc 3000256 .u8 4 0],70⟩
abbrev JO:List aR:=[(.exit 0,⟨[am 0,e3 3 3 .u32,bd 4 3000256],[(3,.row .u32,.same),bc 3000256 .u8 4 0],70⟩)]
noncomputable def CB(y:Ca.J):bQ Ca JO:=
(ja (y.2.2.1.length:Int) (64:Int)).bind fun a=>
 bif(a !=(56:Int)) then
(cm 1 y.2.2.1 ([(0:Int)]:List Int)).bind fun b=>
 some (.inl ((y.1.1,(),(),()),y.2.1,b,()))
else
 some (.inr ((y.1.1,(),(),()),y.2.1,y.2.2.1,()))
noncomputable def Ka:Ca.J->Option (aH JO):=bA CB
theorem apr:aV O (ap (codeOf Tryz.f69) 1 60) (aX Ca JO Ka):=bT u7 (by kernel_rfl) ag fun y=>by kernel_rfl
abbrev Av:Shape:=⟨[e3 3 3 .u32,bd 4 3000256,(5,.aq (.d (.int .u64))),aj 6],[(3,.row .u32,.same),bc 3000256 .u8 4 0],70⟩
abbrev HW:List aR:=[(.exit 2,⟨[e3 3 3 .u32,bd 4 3000256],[(3,.row .u32,.same),bc 3000256 .u8 4 0],70⟩)]
noncomputable def Jj(y:Av.J):bQ Av HW:=
 bif(decide (y.1.2.2.2.1>=(0:Int))) then
(fE .u64 y.1.2.2.1 y.1.2.2.2.1).bind fun a=>
(cm 1 y.2.2.1 ([(IntKind.u8.wrap a)]:List Int)).bind fun b=>
 some (.inl (((),(),y.1.2.2.1,(IntKind.i64.wrap (y.1.2.2.2.1-(8:Int))),()),y.2.1,b,()))
else
 some (.inr (((),(),()),y.2.1,y.2.2.1,()))
noncomputable def IL:Av.J->Option (aH HW):=bA Jj
theorem amJ:aV O (ap (codeOf Tryz.f69) 1 506) (aX Av HW IL):=bT u7 (by kernel_rfl) ag fun y=>by kernel_rfl
abbrev zN:Shape:=⟨[e3 3 3 .u32,aO 4 .u8,aj 7],[(3,.row .u32,.same)],70⟩
abbrev GS:List aR:=[(.exit 4,⟨[e3 3 3 .u32],[(3,.row .u32,.same)],70⟩)]
noncomputable def Af(y:zN.J):bQ zN GS:=
 bif(decide (y.1.2.2.1<(y.1.2.1.length:Int))) then
(long 8 y.2.1).bind fun a=>
(bq y.1.2.1 y.1.2.2.1 (IntKind.i64.wrap (y.1.2.2.1+(64:Int)))).bind fun b=>
(f121 ((((a.getD 0 (0:Int)),(a.getD 1 (0:Int)),(a.getD 2 (0:Int)),(a.getD 3 (0:Int)),(a.getD 4 (0:Int)),(a.getD 5 (0:Int)),(a.getD 6 (0:Int)),(a.getD 7 (0:Int)),()),b,()),())).bind fun c=>
(long 8 y.2.1).bind fun d=>
 some (.inl (((),y.1.2.1,(IntKind.i64.wrap (y.1.2.2.1+(64:Int))),()),([((pad (t:=.u32) 8 c.2.1).getD 0 (0:Int)),((pad (t:=.u32) 8 c.2.1).getD 1 (0:Int)),((pad (t:=.u32) 8 c.2.1).getD 2 (0:Int)),((pad (t:=.u32) 8 c.2.1).getD 3 (0:Int)),((pad (t:=.u32) 8 c.2.1).getD 4 (0:Int)),((pad (t:=.u32) 8 c.2.1).getD 5 (0:Int)),((pad (t:=.u32) 8 c.2.1).getD 6 (0:Int)),((pad (t:=.u32) 8 c.2.1).getD 7 (0:Int))]:List Int),()))
else
 some (.inr (((),()),y.2.1,()))
noncomputable def Hi:zN.J->Option (aH GS):=bA Af
theorem akU:aV O (ap (codeOf Tryz.f69) 1 1018) (aX zN GS Hi):=bT u7 (by kernel_rfl) ag fun y=>by kernel_rfl
abbrev yS:Shape:=⟨[ax 8 8 0,(10,.aq (.d (.int .u32))),aj 11,aO 52 .u32,aj 53,aj 54],[bv 5000513 .u8 8 1,aw 8 [.dM,.own 5000513]],70⟩
abbrev Fs:List aR:=[(.exit 8,⟨[ax 8 8 0,aO 52 .u32,aj 53,aj 54],[bv 5000513 .u8 8 1,aw 8 [.dM,.own 5000513]],70⟩)]
noncomputable def Fy(y:yS.J):bQ yS Fs:=
 bif(decide (y.1.2.2.1>=(0:Int))) then
(fE .u32 y.1.2.1 y.1.2.2.1).bind fun a=>
(aS ([48,49,50,51,52,53,54,55,56,57,97,98,99,100,101,102]:B) (e0 .u32 a (15:Int))).bind fun b=>
(Kq (((),(b.toNat:Int),()),y.2.1,((),(),()),())).bind fun c=>
 some (.inl (((),y.1.2.1,(IntKind.i64.wrap (y.1.2.2.1-(4:Int))),y.1.2.2.2.1,y.1.2.2.2.2.1,y.1.2.2.2.2.2.1,()),c.2.1,((),(),()),()))
else
 some (.inr (((),y.1.2.2.2.1,y.1.2.2.2.2.1,y.1.2.2.2.2.2.1,()),y.2.1,((),(),()),()))
noncomputable def Fw:yS.J->Option (aH Fs):=bA Fy
theorem agx:aV O (ap (dk (ap (codeOf Tryz.f69) 1 4090)) 8180 1047142) (aX yS Fs Fw):=bT u7 (by kernel_rfl) ag fun y=>by kernel_rfl
abbrev zM:Shape:=⟨[ax 8 8 0,aO 52 .u32,aj 53,aj 54],[bv 5000513 .u8 8 1,aw 8 [.dM,.own 5000513]],70⟩
abbrev GR:List aR:=[(.exit 6,⟨[ax 8 8 0],[bv 5000513 .u8 8 1,aw 8 [.dM,.own 5000513]],70⟩)]
noncomputable def qX(y:zM.J):bQ zM GR:=
 bif(decide (y.1.2.2.2.1<y.1.2.2.1)) then
(aS y.1.2.1 y.1.2.2.2.1).bind fun a=>
(Fw (((),a,(28:Int),y.1.2.1,y.1.2.2.1,y.1.2.2.2.1,()),y.2.1,((),(),()),())).bind fun b=>
 some (.inl (((),b.1.2.1,b.1.2.2.1,(IntKind.i64.wrap (b.1.2.2.2.1+(1:Int))),()),b.2.1,((),(),()),()))
else
 some (.inr (((),()),y.2.1,((),(),()),()))
noncomputable def Hh:zM.J->Option (aH GR):=bA qX
theorem akT:aV O (ap (codeOf Tryz.f69) 1 4090) (aX zM GR Hh):=bT u7 (by kernel_rfl) (a7 agx ag) fun y=>by kernel_rfl
abbrev i69:Shape:=⟨[am 0],[],70⟩
abbrev abP:Shape:=⟨[am 2],[],70⟩
noncomputable def f69(a:i69.J):Option abP.J:=
(long 8 (List.replicate 8 (0:Int))).bind fun b=>
(if a.1.1.length<=maxLen then some () else none).bind fun c=>
(cm 1 (bytesOf a.1.1) ([(128:Int)]:List Int)).bind fun d=>
(Ka ((a.1.1,(),(),()),([(1779033703:Int),(3144134277:Int),(1013904242:Int),(2773480762:Int),(1359893119:Int),(2600822924:Int),(528734635:Int),(1541459225:Int)]:List Int),d,())).bind fun e=>
(IL (((),(),(IntKind.u64.wrap ((IntKind.u64.wrap (e.1.1.length:Int))*(8:Int))),(56:Int),()),e.2.1,e.2.2.1,())).bind fun f=>
(Hi (((),f.2.2.1,(0:Int),()),f.2.1,())).bind fun g=>
((long 8 g.2.1).bind fun q=>bq q (0:Int) (2:Int)).bind fun h=>
(Hh (((),h,(h.length:Int),(0:Int),()),([]:List Int),((),(),()),())).bind fun i=>
 some (((strOf i.2.1),()),())
noncomputable def adq:aI:=aL af Tryz.f69 i69 abP [] f69
theorem aw4:aF O 69 adq:=aM u7 Tryz.func69 (by kernel_rfl) (a7 apr (a7 amJ (a7 akU (a7 akT ag)))) (fun y=>by kernel_rfl) fun a=>by kernel_rfl
def ur:B:=[48,49,50,51,52,53,54,55,56,57,97,98,99,100,101,102]
def jM(k:Nat):UInt8:=ur.getD k 48
theorem Kd{k:Nat}(h:k<16):aS ur (k:Int)=some (jM k):=by
 rw[cd];unfold jM;rw[List.getD_eq_getElem?_getD,d_ (by exact h)];rfl
def iJ(b:UInt8):B:=[jM (b.toNat/16),jM (b.toNat%16)]
def gm(w:Int):B:=[jM (w.toNat/268435456%16),jM (w.toNat/16777216%16),jM (w.toNat/1048576%16),jM (w.toNat/65536%16),jM (w.toNat/4096%16),jM (w.toNat/256%16),jM (w.toNat/16%16),jM (w.toNat%16)]
def qa(s:B):B:=gm (e5 s).a++gm (e5 s).b
theorem vm(s:B):strOf (bytesOf s)=s:=by
 unfold strOf bytesOf;rw[List.map_map];refine List.map_id'' (fun b=>?_) s
 simp
theorem pw(s t:B):bytesOf (s++t)=bytesOf s++bytesOf t:=by unfold bytesOf;rw[List.map_append]
theorem age(s:B)(h:qG s):f219 ((s,()),())=some ((s.flatMap iJ,()),()):=by
 have aG:Hp ((s,(ur,((),((0:Int),())))),(([]:List Int),()))=some (((),()),(bytesOf (s.flatMap iJ),())):=by
  have hlen:∀t:B,(t.flatMap iJ).length=2*t.length:=by
   intro t;induction t with
   |nil=>rfl
   |cons b r ih=>rw[List.flatMap_cons,dx,ih];simp[iJ];omega
  refine gd (g:=Am) (fun i=>((s,(ur,((),((i:Int),())))),(bytesOf ((s.take i).flatMap iJ),()))) s.length (fun i hi=>?_) ?_ s.length 0 (by omega)
  ·obtain⟨b,hb⟩:∃b,s[i]? =some b:=⟨s[i],d_ hi⟩;have aC:l5 .u8 (b.toNat:Int) 16=some ((b.toNat/16:Nat):Int):=by
    have:=b.toNat_lt;unfold l5;rw[if_neg (by decide),Int.tdiv_eq_ediv_of_nonneg (by omega),IntKind.wrap_u8]
    congr 1;omega
   have hr:ja (b.toNat:Int) 16=some ((b.toNat%16:Nat):Int):=by rw[oI (by omega) (by omega)];simp
   have:=b.toNat_lt;have e1:=Kd (k:=b.toNat/16) (by omega)
   have e2:=Kd (k:=b.toNat%16) (by omega)
   have ay:s.take (i+1)=s.take i++[b]:=by rw[List.take_add_one,hb];rfl
   simp only[Am,ct hi,ad,cd,hb,Y,aC,hr,ay];simp only[<-cd,e1,e2,Y];rw[dw (by decide) (by unfold aA;rw[jB,hlen];simp;omega),b9 (by unfold aA;omega)]
   simp only[Y,List.flatMap_append,pw];rfl
  ·simp only[Am,dK,ak,List.take_length]
 have fe:([48,49,50,51,52,53,54,55,56,57,97,98,99,100,101,102]:B)=ur:=rfl;simp only[f219,fe,aG,Y,vm]
abbrev sk(w:Int):Prop:=0<=w/\w<4294967296
theorem Uf{w:Int}(h:sk w):iJ (UInt8.ofNat (IntKind.u8.wrap (w.fdiv (2^24))).toNat)++(iJ (UInt8.ofNat (IntKind.u8.wrap (w.fdiv (2^16))).toNat)++(iJ (UInt8.ofNat (IntKind.u8.wrap (w.fdiv (2^8))).toNat)++iJ (UInt8.ofNat (IntKind.u8.wrap w).toNat)))=gm w:=by
 obtain⟨n,rfl⟩:=Int.eq_ofNat_of_zero_le h.1;have hn:n<4294967296:=by have:=h.2;omega
 have e:∀m:Nat,(UInt8.ofNat (IntKind.u8.wrap (m:Int)).toNat).toNat=m%256:=fun m=>by
  rw[IntKind.wrap_u8,show((m:Int)%256).toNat=m%256 by omega];simp
 have f:∀k:Nat,((n:Int).fdiv (2^k))=((n/2^k:Nat):Int):=fun k=>by
  rw[Int.fdiv_eq_ediv_of_nonneg _ (by exact Int.le_of_lt (Int.pow_pos (by decide)))]
  simp
 rw[f,f,f];simp only[iJ,gm,e,List.cons_append,List.nil_append,Int.toNat_natCast];rw[show n/2^24%256/16=n/268435456%16 by omega,show n/2^24%256%16=n/16777216%16 by omega,show n/2^16%256/16=n/1048576%16 by omega,show n/2^16%256%16=n/65536%16 by omega,
  show n/2^8%256/16=n/4096%16 by omega,show n/2^8%256%16=n/256%16 by omega,show n%256/16=n/16%16 by omega,show n%256%16=n%16 by omega]
theorem WN(x:Int):sk (IntKind.u32.wrap x):=by rw[IntKind.wrap_u32];constructor<;>omega
theorem Z'(s:B):sk (e5 s).a/\sk (e5 s).b:=by
 have h1:=IH s;have h2:=z' s;unfold e5;generalize hk:(eM s).length/64=k at h1;cases k with
 |zero=>omega
 |succ k=>exact⟨WN _,WN _⟩
theorem SD(w:Int):(gm w).length=8:=rfl
theorem zJ(s:B):(qa s).length=16:=rfl
theorem ara(s:B)(h:qG s):f173 ((s,()),())=some ((qa s,()),()):=by
 have aG:=amu s h;have hw:=Z' s;have aK:=age (strOf ((e5 s).list.flatMap fun w=>[IntKind.u8.wrap (w.fdiv (2^24)),IntKind.u8.wrap (w.fdiv (2^16)),IntKind.u8.wrap (w.fdiv (2^8)),IntKind.u8.wrap w])) (by unfold qG;simp[strOf,cB.list])
 have ay:∀q:cB,bq ((strOf (q.list.flatMap fun w=>[IntKind.u8.wrap (w.fdiv (2^24)),IntKind.u8.wrap (w.fdiv (2^16)),IntKind.u8.wrap (w.fdiv (2^8)),IntKind.u8.wrap w])).flatMap iJ) 0 16=
   some ((iJ (UInt8.ofNat (IntKind.u8.wrap (q.a.fdiv (2^24))).toNat)++(iJ (UInt8.ofNat (IntKind.u8.wrap (q.a.fdiv (2^16))).toNat)++(iJ (UInt8.ofNat (IntKind.u8.wrap (q.a.fdiv (2^8))).toNat)++iJ (UInt8.ofNat (IntKind.u8.wrap q.a).toNat))))++
    (iJ (UInt8.ofNat (IntKind.u8.wrap (q.b.fdiv (2^24))).toNat)++(iJ (UInt8.ofNat (IntKind.u8.wrap (q.b.fdiv (2^16))).toNat)++(iJ (UInt8.ofNat (IntKind.u8.wrap (q.b.fdiv (2^8))).toNat)++iJ (UInt8.ofNat (IntKind.u8.wrap q.b).toNat))))):=fun q=>rfl
 simp only[f173,aG,aK,Y,ay,Uf hw.1,Uf hw.2];rfl
theorem ar3{m:Nat}(h:m<4294967296):e0 .u32 (m:Int) 15=((m%16:Nat):Int):=by
 unfold e0;rw[BitVec.toNat_and,Gh h,show(BitVec.ofInt IntKind.u32.bits 15).toNat=15 from rfl,show(15:Nat)=2^4-1 from rfl,Nat.and_two_pow_sub_one_eq_mod,pC (by omega) (by omega)]
theorem alQ(w:Int){i:Nat}(h:i<8):(gm w)[i]? =some (jM (w.toNat/2^(28-4*i)%16)):=by
 have:i=0\/i=1\/i=2\/i=3\/i=4\/i=5\/i=6\/i=7:=by omega
 rcases this with rfl|rfl|rfl|rfl|rfl|rfl|rfl|rfl<;>simp[gm]
theorem SC(w:Int)(hw:sk w)(r0:List Int)(hr:r0.length<=100)(p q u):Fw (((),(w,((28:Int),(p,(q,(u,())))))),(r0,(((),((),())),())))=some (((),(p,(q,(u,())))),(r0++bytesOf (gm w),(((),((),())),()))):=by
 have:=gd (g:=Fy) (fun i=>(((),(w,((28-4*(i:Int)),(p,(q,(u,())))))),(r0++bytesOf ((gm w).take i),(((),((),())),())))) 8 (b:=(((),(p,(q,(u,())))),(r0++bytesOf (gm w),(((),((),())),())))) (fun i hi=>?_) rfl 8 0 rfl
 ·rw[show(28:Int)-4*((0:Nat):Int)=28 from rfl,List.take_zero] at this
  have e:r0++bytesOf []=r0:=List.append_nil r0;rw[e] at this;exact this
 ·obtain⟨n,rfl⟩:=Int.eq_ofNat_of_zero_le hw.1;have hn:n<4294967296:=by have:=hw.2;omega
  have hl:decide ((28-4*(i:Int))>=0)=true:=by simp;omega
  have hs:fE .u32 (n:Int) (28-4*(i:Int))=some ((n/2^(28-4*i):Nat):Int):=by
   rw[show(28-4*(i:Int))=((28-4*i:Nat):Int) by omega]
   unfold fE;rw[if_neg (by omega),Int.toNat_natCast,show IntKind.u32.bits=32 from rfl,Nat.min_eq_left (by omega),Int.fdiv_eq_ediv_of_nonneg _ (by exact Int.le_of_lt (Int.pow_pos (by decide)))]
   simp
  have hlt:n/2^(28-4*i)<4294967296:=Nat.lt_of_le_of_lt (Nat.div_le_self _ _) hn;have ha:=ar3 hlt;have hx:=Kd (k:=n/2^(28-4*i)%16) (Nat.mod_lt _ (by decide))
  have aa:IntKind.i64.wrap (28-4*(i:Int)-4)=28-4*((i+1:Nat):Int):=by rw[c5 (by omega) (by omega)];omega
  have ay:(gm (n:Int)).take (i+1)=(gm (n:Int)).take i++[jM (n/2^(28-4*i)%16)]:=by
   rw[List.take_add_one,alQ _ hi,Int.toNat_natCast];rfl
  have fe:([48,49,50,51,52,53,54,55,56,57,97,98,99,100,101,102]:B)=ur:=rfl;simp only[Fy,hl,ad,hs,Y,ha,fe,hx,Kq,aa,ay,pw];rw[dw (by decide) (by unfold aA;simp[jB,SD];omega)]
  simp only[Y,List.append_assoc];rfl
theorem aoY(s:B)(h:qG s):f69 ((s,()),())=some ((qa s,()),()):=by
 have ee:=IH s;have hlen:=z' s;have hz:=wh (s.length+1);have km:=St s;have hm:(if s.length<=maxLen then some () else none)=some ():=if_pos (by unfold maxLen;omega)
 have ha:cm 1 (bytesOf s) ([128]:List Int)=some (bytesOf s++[128]):=dw (by decide) (by unfold aA;rw[jB];simp;omega)
 have h8:long 8 (List.replicate 8 (0:Int))=some (List.replicate 8 (0:Int)):=rfl;have aG:∀r0:List Int,Ka ((s,((),((),()))),(r0,(bytesOf s++[128],())))=some ((s,((),((),()))),(r0,(jL s,()))):=by
  intro r0;have r4:∀i:Nat,(bytesOf s++[128]++List.replicate i (0:Int)).length=s.length+1+i:=fun i=>by simp[jB];omega
  have:=gd (g:=CB) (fun i=>((s,((),((),()))),(r0,(bytesOf s++[128]++List.replicate i (0:Int),())))) (kL (s.length+1)) (b:=((s,((),((),()))),(r0,(jL s,())))) (fun i hi=>?_) ?_ (kL (s.length+1)) 0 (by omega)
  ·rw[List.replicate_zero,List.append_nil] at this;exact this
  ·have hne:((((s.length+1+i)%64:Nat):Int) !=56)=true:=by have:=SX (s.length+1) i hi;rw[bne_iff_ne];omega
   simp only[CB,r4,C0,Y,hne,ad];rw[dw (by decide) (by unfold aA;rw[r4];simp;omega)]
   simp only[Y,SQ]
  ·have hne:((((s.length+1+kL (s.length+1))%64:Nat):Int) !=56)=false:=by have:=HR (s.length+1);rw[this];rfl
   simp only[CB,r4,C0,Y,hne,ak];rfl
 have aK:∀(n:Int) (r0:List Int),IL (((),((),(n,((56:Int),())))),(r0,(jL s,())))=some (((),((),())),(r0,(jL s++kE n,()))):=by
  intro n r0;have:=gd (g:=Jj) (fun i=>(((),((),(n,((56-8*(i:Int)),())))),(r0,(jL s++(kE n).take i,())))) 8 (b:=(((),((),())),(r0,(jL s++kE n,())))) (fun i hi=>?_) rfl 8 0 rfl
  ·rw[show(56:Int)-8*((0:Nat):Int)=56 from rfl,List.take_zero,List.append_nil] at this;exact this
  ·have hl:decide ((56-8*(i:Int))>=0)=true:=by simp;omega
   have hw:(56-8*(i:Int))=((8*(7-i):Nat):Int):=by omega
   have hs:IntKind.i64.wrap (56-8*(i:Int)-8)=56-8*((i+1:Nat):Int):=by rw[c5 (by omega) (by omega)];omega
   have hx:fE .u64 n (56-8*(i:Int))=some (n.fdiv (2^(8*(7-i)))):=by rw[hw];exact ao3 (by omega)
   simp only[Jj,hl,ad,hx,Y,hs];rw[dw (by decide) (by unfold aA;simp[Hc,kE];have:=wh (s.length+1);omega)]
   simp only[Y,List.append_assoc,Ri n hi]
 have hp:∀q:cB,long 8 q.list=some q.list:=fun q=>rfl
 have bP:Hi (((),(eM s,((0:Int),()))),(yL.list,()))=some (((),()),((e5 s).list,())):=by
  refine gd (g:=Af) (fun k=>(((),(eM s,(((64*k:Nat):Int),()))),((uK (eM s) k).list,()))) ((eM s).length/64) (fun k hk=>?_) ?_ ((eM s).length/64) 0 (by omega)
  ·have hk2:64*k+64<=(eM s).length:=by omega
   have hl:decide (((64*k:Nat):Int)<((eM s).length:Int))=true:=by simp;omega
   have hw:IntKind.i64.wrap (((64*k:Nat):Int)+64)=((64*k+64:Nat):Int):=by rw[c5 (by omega) (by omega)];omega
   have hs:bq (eM s) ((64*k:Nat):Int) ((64*k+64:Nat):Int)=some (rO (eM s) k):=qV (by omega) hk2
   have hb:=ag6 (uK (eM s) k) (rO (eM s) k) (Uv hk2 km);have aC:∀q:cB,((q.list.getD 0 0,(q.list.getD 1 0,(q.list.getD 2 0,(q.list.getD 3 0,(q.list.getD 4 0,(q.list.getD 5 0,(q.list.getD 6 0,(q.list.getD 7 0,())))))))):Int×Int×Int×Int×Int×Int×Int×Int×Unit)=(q.a,(q.b,(q.c,(q.d,(q.e,(q.f,(q.g,(q.h,())))))))):=fun q=>rfl
   simp only[Af,hl,ad,hw,hs,Y,hp,aC,hb];rfl
  ·have hl:decide (((64*((eM s).length/64):Nat):Int)<((eM s).length:Int))=false:=by simp;omega
   simp only[Af,hl,ak];rfl
 have hw:=Z' s;have cU:∀a b:Int,sk a->sk b->Hh (((),(([a,b]:List Int),((([a,b]:List Int).length:Int),((0:Int),())))),(([]:List Int),(((),((),())),())))=some (((),()),(bytesOf (gm a++gm b),(((),((),())),()))):=by
  intro a b ha hb;have e1:=SC a ha [] (by simp) ([a,b]:List Int) ((2:Int)) (0:Int)
  have e2:=SC b hb (bytesOf (gm a)) (by rw[jB,SD];decide) ([a,b]:List Int) ((2:Int)) (1:Int)
  have dT:aS ([a,b]:List Int) 0=some a:=rfl;have cV:aS ([a,b]:List Int) 1=some b:=rfl;have iR:qX (((),(([a,b]:List Int),((2:Int),((0:Int),())))),(([]:List Int),(((),((),())),())))=some (.inl (((),(([a,b]:List Int),((2:Int),((1:Int),())))),(bytesOf (gm a),(((),((),())),())))):=by
   have:decide ((0:Int)<2)=true:=rfl;simp only[qX,this,ad,dT,Y,e1];rfl
  have s1:qX (((),(([a,b]:List Int),((2:Int),((1:Int),())))),(bytesOf (gm a),(((),((),())),())))=some (.inl (((),(([a,b]:List Int),((2:Int),((2:Int),())))),(bytesOf (gm a++gm b),(((),((),())),())))):=by
   have:decide ((1:Int)<2)=true:=rfl;simp only[qX,this,ad,cV,Y,e2,pw];rfl
  have s2:qX (((),(([a,b]:List Int),((2:Int),((2:Int),())))),(bytesOf (gm a++gm b),(((),((),())),())))=some (.inr (((),()),(bytesOf (gm a++gm b),(((),((),())),())))):=by
   have:decide ((2:Int)<2)=false:=rfl;simp only[qX,this,ak]
  exact(ea iR).trans ((ea s1).trans (cC s2))
 have hn:IntKind.u64.wrap (IntKind.u64.wrap (s.length:Int)*8)=(s.length:Int)*8:=by rw[IntKind.wrap_u64,IntKind.wrap_u64];omega
 have fe:([1779033703,3144134277,1013904242,2773480762,1359893119,2600822924,528734635,1541459225]:List Int)=yL.list:=rfl;have hz2:((long 8 (e5 s).list).bind fun q=>bq q (0:Int) (2:Int))=some [(e5 s).a,(e5 s).b]:=rfl
 have aua:jL s++kE ((s.length:Int)*8)=eM s:=rfl;simp only[f69,h8,hm,ha,Y,fe,aG,hn,aK,aua,bP,hz2,cU _ _ hw.1 hw.2,vm];rfl
abbrev Xe:Shape:=⟨[ax 0 500000 0,am 1],[bv 37000001 .u8 500000 1,aw 500000 [.dM,.own 37000001]],19⟩
abbrev W0:Shape:=⟨[ax 0 500000 0,aj 4,(5,.aq (.Dv))],[bv 37000001 .u8 500000 1,aw 500000 [.dM,.own 37000001]],19⟩
noncomputable def mG(a:Xe.J):Option W0.J:=
(cm 1 a.2.1 (bytesOf a.1.2.1)).bind fun b=>
 some (((),(a.1.2.1.length:Int),(),()),b,((),(),()),())
noncomputable def Di:aI:=aL af Tryz.f63 Xe W0 [0] mG
theorem KC:aF O 63 Di:=aM g0 Tryz.func63 (by kernel_rfl) ag (fun y=>by kernel_rfl) fun a=>by kernel_rfl
end Go.Proofs
namespace Go.Proofs
open Go.Shelf
def Tryz.afW:Go.Shelf.Ren:=⟨fun|171=>64|243=>113|246=>165|283=>205|284=>206|285=>207|286=>208|129=>240|317=>239|318=>241|319=>242|320=>243|337=>269|338=>270|n=>n,fun|3=>3|9=>9|2=>2|4=>4|171=>224|0=>0|53=>155|37=>52|5=>5|173=>227|212=>244|51=>153|20=>20|213=>245|46=>203|232=>268|233=>269|n=>n,fun|17=>1|18=>3|19=>4|n=>n⟩
theorem Tryz.alK:Go.Proofs.LaysM.n171 O Tryz.afW:={
 mixed:=by kernel_rfl
 f129:=Tryz.func240.trans (congrArg some (by kernel_rfl))
 f171:=Tryz.func64.trans (congrArg some (by kernel_rfl))
 f243:=Tryz.func113.trans (congrArg some (by kernel_rfl))
 f246:=Tryz.func165.trans (congrArg some (by kernel_rfl))
 f283:=Tryz.func205.trans (congrArg some (by kernel_rfl))
 f284:=Tryz.func206.trans (congrArg some (by kernel_rfl))
 f285:=Tryz.func207.trans (congrArg some (by kernel_rfl))
 f286:=Tryz.func208.trans (congrArg some (by kernel_rfl))
 f317:=Tryz.func239.trans (congrArg some (by kernel_rfl))
 f318:=Tryz.func241.trans (congrArg some (by kernel_rfl))
 f319:=Tryz.func242.trans (congrArg some (by kernel_rfl))
 f320:=Tryz.func243.trans (congrArg some (by kernel_rfl))
 f337:=Tryz.func269.trans (congrArg some (by kernel_rfl))
 f338:=Tryz.func270.trans (congrArg some (by kernel_rfl))
 t0:=Tryz.underlying0
 a0:=Tryz.isAgg0
 z0:=Tryz.sizeOf0
 v0:=Tryz.zeroValue0
 t2:=Tryz.underlying2
 a2:=Tryz.isAgg2
 z2:=Tryz.sizeOf2
 v2:=Tryz.zeroValue2
 t3:=Tryz.underlying3
 a3:=Tryz.isAgg3
 z3:=Tryz.sizeOf3
 v3:=Tryz.zeroValue3
 t4:=Tryz.underlying4
 a4:=Tryz.isAgg4
 z4:=Tryz.sizeOf4
 v4:=Tryz.zeroValue4
 t5:=Tryz.underlying5
 a5:=Tryz.isAgg5
 z5:=Tryz.sizeOf5
 v5:=Tryz.zeroValue5
 t9:=Tryz.underlying9
 a9:=Tryz.isAgg9
 z9:=Tryz.sizeOf9
 v9:=Tryz.zeroValue9
 t20:=Tryz.underlying20
 a20:=Tryz.isAgg20
 z20:=Tryz.sizeOf20
 v20:=Tryz.zeroValue20
 t37:=Tryz.underlying52
 a37:=Tryz.isAgg52
 z37:=Tryz.sizeOf52
 v37:=Tryz.zeroValue52
 t46:=Tryz.underlying203
 a46:=Tryz.isAgg203
 z46:=Tryz.sizeOf203
 v46:=Tryz.zeroValue203
 t51:=Tryz.underlying153
 a51:=Tryz.isAgg153
 z51:=Tryz.sizeOf153
 v51:=Tryz.zeroValue153
 t53:=Tryz.underlying155
 a53:=Tryz.isAgg155
 z53:=Tryz.sizeOf155
 v53:=Tryz.zeroValue155
 t171:=Tryz.underlying224
 a171:=Tryz.isAgg224
 z171:=Tryz.sizeOf224
 v171:=Tryz.zeroValue224
 t173:=Tryz.underlying227
 a173:=Tryz.isAgg227
 z173:=Tryz.sizeOf227
 v173:=Tryz.zeroValue227
 t212:=Tryz.underlying244
 a212:=Tryz.isAgg244
 z212:=Tryz.sizeOf244
 v212:=Tryz.zeroValue244
 t213:=Tryz.underlying245
 a213:=Tryz.isAgg245
 z213:=Tryz.sizeOf245
 t232:=Tryz.underlying268
 a232:=Tryz.isAgg268
 z232:=Tryz.sizeOf268
 v232:=Tryz.zeroValue268
 t233:=Tryz.underlying269
 a233:=Tryz.isAgg269
 z233:=Tryz.sizeOf269
 v233:=Tryz.zeroValue269
 g17:=by kernel_rfl
 g18:=by kernel_rfl
 g19:=by kernel_rfl
 i0:=by kernel_rfl
 i2:=by kernel_rfl
 i3:=by kernel_rfl
 i4:=by kernel_rfl
 i5:=by kernel_rfl
 i9:=by kernel_rfl
 i20:=by kernel_rfl
 i37:=by kernel_rfl
 i46:=by kernel_rfl
 i51:=by kernel_rfl
 i53:=by kernel_rfl
 i171:=by kernel_rfl
 i173:=by kernel_rfl
 i212:=by kernel_rfl
 i232:=by kernel_rfl
 i233:=by kernel_rfl
 m17:=by kernel_rfl
 m18:=by kernel_rfl
 m19:=by kernel_rfl}
open Go.RowKit Go.Sort Go.Lib in
theorem Tryz.strconv_Itoa(n:Int)(h0:-9223372036854775808<=n)(h1:n<=9223372036854775807)(w:World)(at5:Lib.TabIs O w "internal/strconv.uint64pow10" .u64 Lib.pow10Tab):
  Calls O 64 #[.int .i64 n] w fun e w'=>e=.returned (.string ⟨(Lib.itoa n).toArray⟩)/\∃k os,w'=grow (w.drewN k) os:=Any.strconv_Itoa Tryz.alK n h0 h1 w at5
def Tryz.agO:Go.Shelf.Ren:=⟨fun|153=>214|152=>252|226=>253|227=>254|228=>255|137=>274|119=>275|224=>246|225=>245|217=>244|266=>271|n=>n,fun|9=>9|3=>3|4=>4|5=>5|21=>21|117=>253|116=>252|0=>0|46=>203|124=>264|n=>n,fun|n=>n⟩
theorem Tryz.anX:Go.Proofs.Lays.n153 O Tryz.agO:={
 mixed:=by kernel_rfl
 f119:=Tryz.func275.trans (congrArg some (by kernel_rfl))
 f137:=Tryz.func274.trans (congrArg some (by kernel_rfl))
 f152:=Tryz.func252.trans (congrArg some (by kernel_rfl))
 f153:=Tryz.func214.trans (congrArg some (by kernel_rfl))
 f217:=Tryz.func244.trans (congrArg some (by kernel_rfl))
 f224:=Tryz.func246.trans (congrArg some (by kernel_rfl))
 f225:=Tryz.func245.trans (congrArg some (by kernel_rfl))
 f226:=Tryz.func253.trans (congrArg some (by kernel_rfl))
 f227:=Tryz.func254.trans (congrArg some (by kernel_rfl))
 f228:=Tryz.func255.trans (congrArg some (by kernel_rfl))
 f266:=Tryz.func271.trans (congrArg some (by kernel_rfl))
 t0:=Tryz.underlying0
 a0:=Tryz.isAgg0
 z0:=Tryz.sizeOf0
 v0:=Tryz.zeroValue0
 t3:=Tryz.underlying3
 a3:=Tryz.isAgg3
 z3:=Tryz.sizeOf3
 v3:=Tryz.zeroValue3
 t4:=Tryz.underlying4
 a4:=Tryz.isAgg4
 z4:=Tryz.sizeOf4
 v4:=Tryz.zeroValue4
 t5:=Tryz.underlying5
 a5:=Tryz.isAgg5
 z5:=Tryz.sizeOf5
 v5:=Tryz.zeroValue5
 t9:=Tryz.underlying9
 a9:=Tryz.isAgg9
 z9:=Tryz.sizeOf9
 v9:=Tryz.zeroValue9
 t21:=Tryz.underlying21
 a21:=Tryz.isAgg21
 z21:=Tryz.sizeOf21
 v21:=Tryz.zeroValue21
 t46:=Tryz.underlying203
 a46:=Tryz.isAgg203
 z46:=Tryz.sizeOf203
 v46:=Tryz.zeroValue203
 t116:=Tryz.underlying252
 a116:=Tryz.isAgg252
 z116:=Tryz.sizeOf252
 t117:=Tryz.underlying253
 a117:=Tryz.isAgg253
 z117:=Tryz.sizeOf253
 v117:=Tryz.zeroValue253
 t124:=Tryz.underlying264
 a124:=Tryz.isAgg264
 z124:=Tryz.sizeOf264
 v124:=Tryz.zeroValue264}
end Go.Proofs
namespace Go.Proofs
open Go.Jk
noncomputable def DJ:aI:=Hw
theorem KY:aF O 64 DJ:=anZ (fun _ _=>enters_of Tryz.func64 (by kernel_rfl) rfl _ _) fun n h0 h1 w hw=>Tryz.strconv_Itoa n h0 h1 w (aky (by kernel_rfl) (show oP w 1 .u64 Lib.pow10Tab from hw.2))
noncomputable abbrev av5:a8:=[(63,Di),(64,DJ),(105,xq)]
theorem aba:aT O (aZ af av5):=aY ⟨KC,KY,z105,⟨⟩⟩
abbrev z7:Shape:=⟨[ax 3 3 0,aO 10 .entry,aj 11,aj 12],[bv 5000193 .u8 3 1,aw 3 [.dM,.own 5000193]],64⟩
abbrev G6:List aR:=[(.exit 0,⟨[ax 3 3 0],[bv 5000193 .u8 3 1,aw 3 [.dM,.own 5000193]],64⟩)]
noncomputable def Ap(y:z7.J):bQ z7 G6:=
 bif(decide (y.1.2.2.2.1<y.1.2.2.1)) then
(aS y.1.2.1 y.1.2.2.2.1).bind fun a=>
(if-9223372036854775808<=a.mode/\a.mode<=9223372036854775807 then some () else none).bind fun b=>
 bif(a.kind==(1:Int)) then
(cc ([100,105,114,32]:B) (Lib.itoa a.mode)).bind fun c=>
(cc c ([32]:B)).bind fun d=>
(cc d a.path).bind fun e=>
(cc e ([10]:B)).bind fun f=>
(mG (((),f,()),y.2.1,((),(),()),())).bind fun g=>
 some (.inl (((),y.1.2.1,y.1.2.2.1,(IntKind.i64.wrap (y.1.2.2.2.1+(1:Int))),()),g.2.1,((),(),()),()))
else
 bif(a.kind==(2:Int)) then
(cc ([102,105,108,101,32]:B) (Lib.itoa a.mode)).bind fun h=>
(cc h ([32]:B)).bind fun i=>
(cc i a.path).bind fun j=>
(cc j ([32]:B)).bind fun k=>
(if-9223372036854775808<=(a.text.length:Int)/\(a.text.length:Int)<=9223372036854775807 then some () else none).bind fun l=>
(cc k (Lib.itoa (a.text.length:Int))).bind fun m=>
(cc m ([10]:B)).bind fun n=>
(mG (((),n,()),y.2.1,((),(),()),())).bind fun D=>
(cc a.text ([10]:B)).bind fun p=>
(mG (((),p,()),D.2.1,((),(),()),())).bind fun q=>
 some (.inl (((),y.1.2.1,y.1.2.2.1,(IntKind.i64.wrap (y.1.2.2.2.1+(1:Int))),()),q.2.1,((),(),()),()))
else
 bif(a.kind==(3:Int)) then
(cc ([108,105,110,107,32]:B) a.path).bind fun r=>
(cc r ([32]:B)).bind fun s=>
(cc s a.text).bind fun t=>
(cc t ([10]:B)).bind fun u=>
(mG (((),u,()),y.2.1,((),(),()),())).bind fun v=>
 some (.inl (((),y.1.2.1,y.1.2.2.1,(IntKind.i64.wrap (y.1.2.2.2.1+(1:Int))),()),v.2.1,((),(),()),()))
else
 some (.inl (((),y.1.2.1,y.1.2.2.1,(IntKind.i64.wrap (y.1.2.2.2.1+(1:Int))),()),y.2.1,((),(),()),()))
else
 some (.inr (((),()),y.2.1,((),(),()),()))
noncomputable def Hu:z7.J->Option (aH G6):=bA Ap
theorem alm:aV O (ap (codeOf Tryz.f120) 1 122) (aX z7 G6 Hu):=bT aba (by kernel_rfl) ag fun y=>by kernel_rfl
abbrev i120:Shape:=⟨[aO 0 .entry],[],64⟩
abbrev Zx:Shape:=⟨[am 2],[],64⟩
noncomputable def f120(a:i120.J):Option Zx.J:=
(f105 ((a.1.1,()),())).bind fun b=>
 bif(!b.1.1) then
 some ((([]:B),()),())
else
(Hu (((),a.1.1,(a.1.1.length:Int),(0:Int),()),([]:List Int),((),(),()),())).bind fun c=>
 some (((strOf c.2.1),()),())
noncomputable def aaC:aI:=aL af Tryz.f120 i120 Zx [] f120
theorem ath:aF O 120 aaC:=aM aba Tryz.func120 (by kernel_rfl) (a7 alm ag) (fun y=>by kernel_rfl) fun a=>by kernel_rfl
abbrev i83:Shape:=⟨[aj 0],[],28⟩
abbrev nV:Shape:=⟨[am 2],[],28⟩
noncomputable def LN(aW:i83.J->Option nV.J):aI:=aL af Tryz.f83 i83 nV [] aW
noncomputable abbrev az8(aW:i83.J->Option nV.J):a8:=[(83,(LN aW))]
theorem aAS(aW:i83.J->Option nV.J)(eV:aF O 83 (LN aW)):aT O (aZ af (az8 aW)):=aY ⟨eV,⟨⟩⟩
noncomputable def l_(aW:i83.J->Option nV.J)(a:i83.J):Option nV.J:=
 bif(decide (a.1.1<((-9223372036854775807):Int))) then
 some ((([45,57,50,50,51,51,55,50,48,51,54,56,53,52,55,55,53,56,48,56]:B),()),())
else
 bif(decide (a.1.1<(0:Int))) then
(aW (((IntKind.i64.wrap (0-a.1.1)),()),())).bind fun b=>
(cc ([45]:B) b.1.1).bind fun c=>
 some ((c,()),())
else
 bif(decide (a.1.1<(10:Int))) then
 some (((strOf ([(IntKind.u8.wrap (IntKind.i64.wrap ((48:Int)+a.1.1)))]:List Int)),()),())
else
(l5 .i64 a.1.1 (10:Int)).bind fun d=>
(aW ((d,()),())).bind fun e=>
(ja a.1.1 (10:Int)).bind fun f=>
(cc e.1.1 (strOf ([(IntKind.u8.wrap (IntKind.i64.wrap ((48:Int)+f)))]:List Int))).bind fun g=>
 some ((g,()),())
theorem asg(aW:i83.J->Option nV.J)(eV:aF O 83 (LN aW)):aF O 83 (aL af Tryz.f83 i83 nV [] (l_ aW)):=aM (aAS aW eV) Tryz.func83 (by kernel_rfl) ag (fun y=>by kernel_rfl) fun a=>by kernel_rfl
noncomputable def f83:i83.J->Option nV.J:=j_ l_ kB
noncomputable def yc:aI:=aL af Tryz.f83 i83 nV [] f83
theorem DZ:aF O 83 yc:=JW (ff:=l_) asg kB
noncomputable abbrev au6:a8:=[(83,yc)]
theorem awr:aT O (aZ af au6):=aY ⟨DZ,⟨⟩⟩
abbrev i226:Shape:=⟨[ck 0 [ah,ba,ba,ah]],[],45⟩
abbrev Yl:Shape:=⟨[am 2],[],45⟩
noncomputable def f226(a:i226.J):Option Yl.J:=
 bif(a.1.1.2.1==(1:Int)) then
(f83 ((a.1.1.2.2.1,()),())).bind fun b=>
(cc ([100,105,114,32]:B) b.1.1).bind fun c=>
(cc c ([32]:B)).bind fun d=>
(cc d a.1.1.1).bind fun e=>
(cc e ([10]:B)).bind fun f=>
 some ((f,()),())
else
 bif(a.1.1.2.1==(3:Int)) then
(cc ([108,105,110,107,32]:B) a.1.1.1).bind fun g=>
(cc g ([32]:B)).bind fun h=>
(cc h a.1.1.2.2.2.1).bind fun i=>
(cc i ([10]:B)).bind fun j=>
 some ((j,()),())
else
(f83 ((a.1.1.2.2.1,()),())).bind fun k=>
(cc ([102,105,108,101,32]:B) k.1.1).bind fun l=>
(cc l ([32]:B)).bind fun m=>
(cc m a.1.1.1).bind fun n=>
(cc n ([32]:B)).bind fun D=>
(f83 (((a.1.1.2.2.2.1.length:Int),()),())).bind fun p=>
(cc D p.1.1).bind fun q=>
(cc q ([10]:B)).bind fun r=>
(cc r a.1.1.2.2.2.1).bind fun s=>
(cc s ([10]:B)).bind fun t=>
 some ((t,()),())
noncomputable def _G:aI:=aL af Tryz.f226 i226 Yl [] f226
theorem z226:aF O 226 _G:=aM awr Tryz.func226 (by kernel_rfl) ag (fun y=>by kernel_rfl) fun a=>by kernel_rfl
noncomputable abbrev avr:a8:=[(226,_G)]
theorem aaV:aT O (aZ af avr):=aY ⟨z226,⟨⟩⟩
abbrev AP:Shape:=⟨[aO 0 .entry,am 3,aj 4],[],19⟩
abbrev Ic:List aR:=[(.exit 0,⟨[am 3],[],19⟩)]
noncomputable def Bv(y:AP.J):bQ AP Ic:=
 bif(decide (y.1.2.2.1<(y.1.1.length:Int))) then
(aS y.1.1 y.1.2.2.1).bind fun a=>
(f226 (((a.path,a.kind,a.mode,a.text,()),()),())).bind fun b=>
(cc y.1.2.1 b.1.1).bind fun c=>
 some (.inl ((y.1.1,c,(IntKind.i64.wrap (y.1.2.2.1+(1:Int))),()),()))
else
 some (.inr ((y.1.2.1,()),()))
noncomputable def IZ:AP.J->Option (aH Ic):=bA Bv
theorem anc:aV O (ap (codeOf Tryz.f181) 1 58) (aX AP Ic IZ):=bT aaV (by kernel_rfl) ag fun y=>by kernel_rfl
abbrev i181:Shape:=⟨[aO 0 .entry],[],19⟩
abbrev YS:Shape:=⟨[am 2],[],19⟩
noncomputable def f181(a:i181.J):Option YS.J:=
(IZ ((a.1.1,([]:B),(0:Int),()),())).bind fun b=>
 some ((b.1.1,()),())
noncomputable def L1:aI:=aL af Tryz.f181 i181 YS [] f181
theorem XI:aF O 181 L1:=aM aaV Tryz.func181 (by kernel_rfl) (a7 anc ag) (fun y=>by kernel_rfl) fun a=>by kernel_rfl
theorem SU(m:Nat)(h:m<10):strOf ([(IntKind.u8.wrap (IntKind.i64.wrap ((48:Int)+(m:Int))))]:List Int)=[UInt8.ofNat (48+m)]:=by
 have:IntKind.u8.wrap (IntKind.i64.wrap ((48:Int)+(m:Int)))=((48+m:Nat):Int):=by
  rw[c5 (by omega) (by omega),IntKind.wrap_u8];omega
 rw[this];rfl
theorem Uu:∀n:Nat,n<10^20->(Lib.decDigits n).length<=20:=by
 have:∀(k n:Nat),n<10^(k+1)->(Lib.decDigits n).length<=k+1:=by
  intro k;induction k with
  |zero=>intro n h;rw[Lib.decDigits,dif_pos (by omega)];simp
  |succ k ih=>
   intro n h;rw[Lib.decDigits];split
   ·simp
   ·have:=ih (n/10) (by rw[Nat.pow_succ] at h;omega)
    simp;omega
 intro n h;exact this 19 n h
theorem qW(n:Nat):Lib.itoa (n:Int)=Lib.decDigits n:=by unfold Lib.itoa;rw[if_neg (by omega),Int.toNat_natCast]
theorem ku(n:Nat)(h:n<=4611686018427387904):(Lib.itoa (n:Int)).length<=20:=by rw[qW];exact Uu n (by omega)
theorem akk:∀(m:Nat),m<=4611686018427387903->∀f:Nat,m<f->j_ l_ f (((m:Int),()),())=some ((Lib.decDigits m,()),()):=by
 intro m;induction m using Nat.strongRecOn with
 |_ m ih=>
  intro hm f hf;obtain⟨f,rfl⟩:∃aBG,f=aBG+1:=⟨f-1,by omega⟩
  show l_ (j_ l_ f) (((m:Int),()),())=_;have h1:decide ((m:Int)< -9223372036854775807)=false:=decide_eq_false (by omega)
  have h2:decide ((m:Int)<0)=false:=decide_eq_false (by omega)
  have h3:decide ((m:Int)<10)=decide (m<10):=by congr 1;apply propext;omega
  rw[Lib.decDigits];by_cases h:m<10
  ·rw[dif_pos h];simp only[l_,h1,h2,h3,h,decide_true,ad,ak,SU m h]
  ·have aC:l5 .i64 (m:Int) 10=some ((m/10:Nat):Int):=by exact wo rfl (by omega) (by omega) (by decide)
   have hr:ja (m:Int) 10=some ((m%10:Nat):Int):=by exact oI (by omega) (by decide)
   rw[dif_neg h];simp only[l_,h1,h2,h3,h,decide_false,ak,aC,hr,Y,ih (m/10) (by omega) (by omega) f (by omega),SU (m%10) (by omega)]
   rw[dS (by have:=Uu (m/10) (by omega);simp;omega)]
   rfl
theorem At(m:Nat)(h:m<=4611686018427387903):f83 (((m:Int),()),())=some ((Lib.itoa (m:Int),()),()):=by
 rw[qW];exact akk m h kB (by unfold kB;omega)
def et(e:aB):B:=bif e.kind==1 then [100,105,114,32]++Lib.itoa e.mode++[32]++e.path++[10] else bif e.kind==3 then [108,105,110,107,32]++e.path++[32]++e.text++[10]
 else [102,105,108,101,32]++Lib.itoa e.mode++[32]++e.path++[32]++Lib.itoa (e.text.length:Int)++[10]++e.text++[10]
def dt(t:List aB):B:=t.flatMap et
abbrev og(e:aB):Prop:=0<=e.mode/\e.mode<=7
theorem Bk{e:aB}(h:og e):(Lib.itoa e.mode).length<=20:=by
 obtain⟨n,hn⟩:=Int.eq_ofNat_of_zero_le h.1;rw[hn];exact ku n (by have:=h.2;omega)
theorem Gm{e:aB}(h:og e)(hb:mh e):(et e).length<=4194404:=by
 have h1:=Bk h;have h2:=ku e.text.length (by have:=hb.2;omega)
 have h3:=hb.1;have aD:=hb.2;unfold et;cases e.kind==1<;>cases e.kind==3<;>simp<;>omega
theorem akg(e:aB)(h:og e)(hb:mh e):f226 (((e.path,(e.kind,(e.mode,(e.text,())))),()),())=some ((et e,()),()):=by
 have h1:=Bk h;have h2:=ku e.text.length (by have:=hb.2;omega)
 have h3:=hb.1;have aD:=hb.2;obtain⟨n,hn⟩:=Int.eq_ofNat_of_zero_le h.1;have d1:=At n (by have:=h.2;omega)
 rw[<-hn] at d1;have d2:=At e.text.length (by omega)
 unfold et;simp only[f226];cases e.kind==1 with
 |true=>
  simp only[ad,d1,Y];repeat(rw[dS (by simp;omega),Y])
 |false=>
  cases e.kind==3 with
  |true=>
   simp only[ad,ak,Y];repeat(rw[dS (by simp;omega),Y])
  |false=>
   simp only[ak,d1,d2,Y];repeat(rw[dS (by simp;omega),Y])
theorem nw{aE:Type}{f:aE->B}{n:Nat}:∀{xs:List aE},(∀x,x∈xs->(f x).length<=n)->(xs.flatMap f).length<=xs.length*n:=by
 intro xs;induction xs with
 |nil=>intro _;simp
 |cons x r ih=>
  intro h;have h1:=h x cj;have h2:=ih fun y hy=>h y (ci _ hy)
  rw[List.flatMap_cons,dx,cY,Nat.add_mul];omega
theorem np{aE:Type}(f:aE->B){xs:List aE}{i:Nat}{x:aE}(h:xs[i]? =some x):(xs.take (i+1)).flatMap f=(xs.take i).flatMap f++f x:=by
 rw[List.take_add_one,h,List.flatMap_append];simp
theorem y5{t:List aB}(hm:∀e,e∈t->og e)(hb:iL t)(hl:t.length<=16):(dt t).length<=67110464:=by
 have h1:=nw (f:=et) (xs:=t) (n:=4194404) fun e he=>Gm (hm e he) (hb.2 e he)
 unfold dt;exact Nat.le_trans h1 (by omega)
theorem qS{aE:Type}{xs:List aE}{i:Nat}{x:aE}(h:x∈xs.take i):x∈xs:=List.mem_of_mem_take h
theorem OW{t:List aB}(hm:∀e,e∈t->og e)(hb:iL t)(hl:t.length<=16)(i:Nat):((t.take i).flatMap et).length<=67110464:=
 y5 (t:=t.take i) (fun e he=>hm e (qS he)) ⟨Nat.le_trans (List.take_sublist i t).length_le hb.1,fun e he=>hb.2 e (qS he)⟩ (Nat.le_trans (List.take_sublist i t).length_le hl)
theorem FX(t:List aB)(hm:∀e,e∈t->og e)(hb:iL t)(hl:t.length<=16):f181 ((t,()),())=some ((dt t,()),()):=by
 have aG:IZ ((t,(([]:B),((0:Int),()))),())=some ((dt t,()),()):=by
  refine gd (g:=Bv) (fun i=>((t,((t.take i).flatMap et,((i:Int),()))),())) t.length (fun i hi=>?_) ?_ t.length 0 (by omega)
  ·obtain⟨e,he⟩:∃e,t[i]? =some e:=⟨t[i],d_ hi⟩;have eG:=eK he;have:=OW hm hb hl i;have hY:=Gm (hm e eG) (hb.2 e eG);simp only[Bv,ct hi,ad,cd,he,Y,akg e (hm e eG) (hb.2 e eG)];rw[dS (by omega),b9 (by unfold aA;omega),np et he]
   rfl
  ·simp only[Bv,dK,ak,List.take_length];rfl
 simp only[f181,aG,Y]
theorem s0{n a b:Int}(h:within n a b=true):a<=n/\n<=b:=by
 unfold within at h;simpa using h
theorem HK{e:aB}(h:e9 e=true):og e:=by
 unfold e9 at h;simp only[bz] at h;have h:=h.2;cases aG:(e.kind==1) with
 |true=>
  rw[aG] at h;simp only[ad,bz] at h;exact s0 h.1
 |false=>
  cases aK:(e.kind==2) with
  |true=>
   rw[aG,aK] at h;simp only[ad,ak,bz] at h;exact s0 h.1
  |false=>
   rw[aG,aK] at h;cases bP:(e.kind==3) with
   |true=>
    rw[bP] at h;simp only[ad,ak,bz,beq_iff_eq] at h;exact⟨by rw[h.1];decide,by rw[h.1];decide⟩
   |false=>rw[bP] at h;cases h
theorem vu{e:aB}(h:e9 e=true):e.kind=1\/e.kind=2\/e.kind=3:=by
 unfold e9 at h;simp only[bz] at h;have h:=h.2;cases aG:(e.kind==1) with
 |true=>exact .inl (eq_of_beq aG)
 |false=>
  cases aK:(e.kind==2) with
  |true=>exact .inr (.inl (eq_of_beq aK))
  |false=>
   cases bP:(e.kind==3) with
   |true=>exact .inr (.inr (eq_of_beq bP))
   |false=>rw[aG,aK,bP] at h;cases h
theorem vp{t:List aB}(h:dQ t=true):∀e,e∈t->e9 e=true:=by
 intro e he;unfold dQ at h;simp only[bz] at h;obtain⟨i,hi⟩:=List.getElem?_of_mem he;have:=Ar t 0 h.1.1 i e hi;unfold jm at this;simp only[bz] at this;exact this.1
theorem pL(xs:List Int)(s:B)(h:aA (xs.length+s.length)):mG (((),(s,())),(xs,(((),((),())),())))=some (((),((s.length:Int),((),()))),(xs++bytesOf s,(((),((),())),()))):=by
 simp only[mG];rw[dw (by decide) (by rw[jB];exact h)]
 rfl
theorem Kg{n:Int}(h:-9223372036854775808<=n/\n<=9223372036854775807):(if-9223372036854775808<=n/\n<=9223372036854775807 then some () else none)=some ():=if_pos h
theorem agi(t:List aB)(hb:iL t):f120 ((t,()),())=some (((bif dQ t then dt t else []),()),()):=by
 have h0:=qN ((t,()),()) hb;simp only[f120,h0,Y];cases f':dQ t with
 |false=>rfl
 |true=>
  have hl:=j2 f';have Z5:=vp f';have hm:∀e,e∈t->og e:=fun e he=>HK (Z5 e he)
  have aG:Hu (((),(t,((t.length:Int),((0:Int),())))),(([]:List Int),(((),((),())),())))=some (((),()),(bytesOf (dt t),(((),((),())),()))):=by
   refine gd (g:=Ap) (fun i=>(((),(t,((t.length:Int),((i:Int),())))),(bytesOf ((t.take i).flatMap et),(((),((),())),())))) t.length (fun i hi=>?_) ?_ t.length 0 (by omega)
   ·obtain⟨e,he⟩:∃e,t[i]? =some e:=⟨t[i],d_ hi⟩;have eG:=eK he;have jb:=OW hm hb hl i;have hY:=Gm (hm e eG) (hb.2 e eG);have h1:=Bk (hm e eG);have h2:=ku e.text.length (by have:=(hb.2 e eG).2;omega)
    have h3:=(hb.2 e eG).1;have aD:=(hb.2 e eG).2;have aC9:=hm e eG;have i1:=Kg (n:=e.mode) ⟨by omega,by omega⟩
    have i2:=Kg (n:=(e.text.length:Int)) ⟨by omega,by omega⟩
    rw[np et he,pw];simp only[Ap,ct hi,ad,cd,he,Y,i1,i2,b9 (i:=i) (by unfold aA;omega)]
    generalize List.flatMap et (List.take i t)=A at jb ⊢;rcases vu (Z5 e eG) with hk|hk|hk
    ·have e1:et e=[100,105,114,32]++Lib.itoa e.mode++[32]++e.path++[10]:=by unfold et;rw[hk];rfl
     rw[hk,show((1:Int)==1)=true from rfl,ad,e1]
     repeat(rw[dS (by simp;omega),Y])
     rw[pL _ _ (by unfold aA;rw[jB];simp;omega)]
     rfl
    ·have e1:et e=[102,105,108,101,32]++Lib.itoa e.mode++[32]++e.path++[32]++Lib.itoa (e.text.length:Int)++[10]++(e.text++[10]):=by unfold et;rw[hk];simp
     rw[hk,show((2:Int)==1)=false from rfl,show((2:Int)==2)=true from rfl,ak,ad,e1]
     repeat(rw[dS (by simp;omega),Y])
     rw[pL _ _ (by unfold aA;rw[jB];simp;omega),Y]
     rw[dS (by simp;omega),Y]
     rw[pL _ _ (by unfold aA;simp[jB];omega),pw _ (e.text++[10]),<-List.append_assoc]
     rfl
    ·have e1:et e=[108,105,110,107,32]++e.path++[32]++e.text++[10]:=by unfold et;rw[hk];rfl
     rw[hk,show((3:Int)==1)=false from rfl,show((3:Int)==2)=false from rfl,show((3:Int)==3)=true from rfl,ak,ak,ad,e1]
     repeat(rw[dS (by simp;omega),Y])
     rw[pL _ _ (by unfold aA;rw[jB];simp;omega)]
     rfl
   ·simp only[Ap,dK,ak,List.take_length];rfl
  simp only[bu,ak,ad,aG,Y,vm]
noncomputable abbrev av6:a8:=[(102,xr)]
theorem awP:aT O (aZ af av6):=aY ⟨Do,⟨⟩⟩
abbrev i119:Shape:=⟨[ck 0 [ah,ba,ah]],[],34⟩
abbrev Zy:Shape:=⟨[am 2],[],34⟩
noncomputable def f119(a:i119.J):Option Zy.J:=
(f102 (((a.1.1.1,a.1.1.2.1,a.1.1.2.2.1,()),()),())).bind fun b=>
 bif(!b.1.1) then
 some ((([]:B),()),())
else
 bif(a.1.1.2.1==(1:Int)) then
(cc a.1.1.1 ([61]:B)).bind fun c=>
(cc c a.1.1.2.2.1).bind fun d=>
 some ((d,()),())
else
 bif(a.1.1.2.1==(2:Int)) then
(cc a.1.1.1 ([62,61]:B)).bind fun e=>
(cc e a.1.1.2.2.1).bind fun f=>
 some ((f,()),())
else
 bif(a.1.1.2.1==(3:Int)) then
(cc a.1.1.1 ([60]:B)).bind fun g=>
(cc g a.1.1.2.2.1).bind fun h=>
 some ((h,()),())
else
 some ((a.1.1.1,()),())
noncomputable def aaD:aI:=aL af Tryz.f119 i119 Zy [] f119
theorem z119:aF O 119 aaD:=aM awP Tryz.func119 (by kernel_rfl) ag (fun y=>by kernel_rfl) fun a=>by kernel_rfl
abbrev i225:Shape:=⟨[aj 0],[],10⟩
abbrev Ym:Shape:=⟨[am 2],[],10⟩
noncomputable def f225(a:i225.J):Option Ym.J:=
 bif(a.1.1==(1:Int)) then
 some ((([61]:B),()),())
else
 bif(a.1.1==(2:Int)) then
 some ((([62,61]:B),()),())
else
 bif(a.1.1==(3:Int)) then
 some ((([60]:B),()),())
else
 some ((([]:B),()),())
noncomputable def LS:aI:=aL af Tryz.f225 i225 Ym [] f225
theorem XD:aF O 225 LS:=aM g0 Tryz.func225 (by kernel_rfl) ag (fun y=>by kernel_rfl) fun a=>by kernel_rfl
noncomputable abbrev avb:a8:=[(225,LS)]
theorem awt:aT O (aZ af avb):=aY ⟨XD,⟨⟩⟩
abbrev i218:Shape:=⟨[ck 0 [ah,ba,ah]],[],12⟩
abbrev Ys:Shape:=⟨[am 2],[],12⟩
noncomputable def f218(a:i218.J):Option Ys.J:=
(f225 ((a.1.1.2.1,()),())).bind fun b=>
(cc a.1.1.1 b.1.1).bind fun c=>
(cc c a.1.1.2.2.1).bind fun d=>
 some ((d,()),())
noncomputable def LV:aI:=aL af Tryz.f218 i218 Ys [] f218
theorem z218:aF O 218 LV:=aM awt Tryz.func218 (by kernel_rfl) ag (fun y=>by kernel_rfl) fun a=>by kernel_rfl
noncomputable abbrev avy:a8:=[(181,L1),(218,LV)]
theorem aaX:aT O (aZ af avy):=aY ⟨XI,z218,⟨⟩⟩
abbrev AT:Shape:=⟨[ax 1 1 0,am 3,aj 4],[aw 1 [ah,ah,br .need,br .entry]],36⟩
abbrev Ih:List aR:=[(.exit 0,⟨[ax 1 1 0,am 3],[aw 1 [ah,ah,br .need,br .entry]],36⟩)]
noncomputable def Bw(y:AT.J):bQ AT Ih:=
 bif(decide (y.1.2.2.1<(y.2.1.2.2.1.length:Int))) then
(cc y.1.2.1 ([110,101,101,100,32]:B)).bind fun a=>
(aS y.2.1.2.2.1 y.1.2.2.1).bind fun b=>
(f218 (((b.name,b.kind,b.a6,()),()),())).bind fun c=>
(cc a c.1.1).bind fun d=>
(cc d ([10]:B)).bind fun e=>
 some (.inl (((),e,(IntKind.i64.wrap (y.1.2.2.1+(1:Int))),()),(y.2.1.1,y.2.1.2.1,y.2.1.2.2.1,y.2.1.2.2.2.1,()),()))
else
 some (.inr (((),y.1.2.1,()),(y.2.1.1,y.2.1.2.1,y.2.1.2.2.1,y.2.1.2.2.2.1,()),()))
noncomputable def I0:AT.J->Option (aH Ih):=bA Bw
theorem anh:aV O (ap (codeOf Tryz.f172) 1 58) (aX AT Ih I0):=bT aaX (by kernel_rfl) ag fun y=>by kernel_rfl
abbrev i172:Shape:=⟨[ck 0 [ah,ah,br .need,br .entry]],[],36⟩
abbrev YY:Shape:=⟨[am 2],[],36⟩
noncomputable def f172(a:i172.J):Option YY.J:=
(cc ([112,97,99,107,32]:B) a.1.1.1).bind fun b=>
(cc b ([32]:B)).bind fun c=>
(cc c a.1.1.2.1).bind fun d=>
(cc d ([10]:B)).bind fun e=>
(I0 (((),e,(0:Int),()),(a.1.1.1,a.1.1.2.1,a.1.1.2.2.1,a.1.1.2.2.2.1,()),())).bind fun f=>
(cc f.1.2.1 ([10]:B)).bind fun g=>
(f181 ((f.2.1.2.2.2.1,()),())).bind fun h=>
(cc g h.1.1).bind fun i=>
 some ((i,()),())
noncomputable def _9:aI:=aL af Tryz.f172 i172 YY [] f172
theorem asZ:aF O 172 _9:=aM aaX Tryz.func172 (by kernel_rfl) (a7 anh ag) (fun y=>by kernel_rfl) fun a=>by kernel_rfl
noncomputable abbrev av3:a8:=[(172,_9),(173,_8)]
theorem awO:aT O (aZ af av3):=aY ⟨asZ,z173,⟨⟩⟩
abbrev i123:Shape:=⟨[ck 0 [ah,ah,br .need,br .entry]],[],12⟩
abbrev Zv:Shape:=⟨[am 2],[],12⟩
noncomputable def f123(a:i123.J):Option Zv.J:=
(f172 (((a.1.1.1,a.1.1.2.1,a.1.1.2.2.1,a.1.1.2.2.2.1,()),()),())).bind fun b=>
(f173 ((b.1.1,()),())).bind fun c=>
(cc ([115,117,109,32]:B) c.1.1).bind fun d=>
(cc d ([10]:B)).bind fun e=>
(cc e b.1.1).bind fun f=>
 some ((f,()),())
noncomputable def L_:aI:=aL af Tryz.f123 i123 Zv [] f123
theorem XM:aF O 123 L_:=aM awO Tryz.func123 (by kernel_rfl) ag (fun y=>by kernel_rfl) fun a=>by kernel_rfl
noncomputable abbrev aAe:a8:=[(63,Di),(119,aaD),(120,aaC)]
theorem adP:aT O (aZ af aAe):=aY ⟨KC,z119,ath,⟨⟩⟩
abbrev Aw:Shape:=⟨[ax 1 1 0,ax 3 3 0,aO 16 .need,aj 17,aj 18],[aw 1 [ah,ah,br .need,br .entry],bv 5000193 .u8 3 1,aw 3 [.dM,.own 5000193]],34⟩
abbrev HX:List aR:=[(.exit 0,⟨[ax 1 1 0,ax 3 3 0],[aw 1 [ah,ah,br .need,br .entry],bv 5000193 .u8 3 1,aw 3 [.dM,.own 5000193]],34⟩)]
noncomputable def Bn(y:Aw.J):bQ Aw HX:=
 bif(decide (y.1.2.2.2.2.1<y.1.2.2.2.1)) then
(aS y.1.2.2.1 y.1.2.2.2.2.1).bind fun a=>
(f119 (((a.name,a.kind,a.a6,()),()),())).bind fun b=>
(cc ([110,101,101,100,32]:B) b.1.1).bind fun c=>
(cc c ([10]:B)).bind fun d=>
(mG (((),d,()),y.2.2.1,((),(),()),())).bind fun e=>
 some (.inl (((),(),y.1.2.2.1,y.1.2.2.2.1,(IntKind.i64.wrap (y.1.2.2.2.2.1+(1:Int))),()),(y.2.1.1,y.2.1.2.1,y.2.1.2.2.1,y.2.1.2.2.2.1,()),e.2.1,((),(),()),()))
else
 some (.inr (((),(),()),(y.2.1.1,y.2.1.2.1,y.2.1.2.2.1,y.2.1.2.2.2.1,()),y.2.2.1,((),(),()),()))
noncomputable def IM:Aw.J->Option (aH HX):=bA Bn
theorem amK:aV O (ap (codeOf Tryz.f68) 1 122) (aX Aw HX IM):=bT adP (by kernel_rfl) ag fun y=>by kernel_rfl
abbrev i68:Shape:=⟨[ck 0 [ah,ah,br .need,br .entry]],[],34⟩
abbrev abQ:Shape:=⟨[am 2],[],34⟩
noncomputable def f68(a:i68.J):Option abQ.J:=
(cc ([112,97,99,107,32]:B) a.1.1.1).bind fun b=>
(cc b ([32]:B)).bind fun c=>
(cc c a.1.1.2.1).bind fun d=>
(cc d ([10]:B)).bind fun e=>
(mG (((),e,()),([]:List Int),((),(),()),())).bind fun f=>
(IM (((),(),a.1.1.2.2.1,(a.1.1.2.2.1.length:Int),(0:Int),()),(a.1.1.1,a.1.1.2.1,a.1.1.2.2.1,a.1.1.2.2.2.1,()),f.2.1,((),(),()),())).bind fun g=>
(f120 ((g.2.1.2.2.2.1,()),())).bind fun h=>
(cc ([10]:B) h.1.1).bind fun i=>
(mG (((),i,()),g.2.2.1,((),(),()),())).bind fun j=>
 some (((strOf j.2.1),()),())
noncomputable def adr:aI:=aL af Tryz.f68 i68 abQ [] f68
theorem aw5:aF O 68 adr:=aM adP Tryz.func68 (by kernel_rfl) (a7 amK ag) (fun y=>by kernel_rfl) fun a=>by kernel_rfl
noncomputable abbrev aAx:a8:=[(55,EI),(68,adr),(69,adq)]
theorem aA1:aT O (aZ af aAx):=aY ⟨Mp,aw5,aw4,⟨⟩⟩
abbrev i36:Shape:=⟨[ck 0 [ah,ah,br .need,br .entry]],[],15⟩
abbrev ab7:Shape:=⟨[am 2],[],15⟩
noncomputable def f36(a:i36.J):Option ab7.J:=
(f55 (((a.1.1.1,a.1.1.2.1,a.1.1.2.2.1,a.1.1.2.2.2.1,()),()),())).bind fun b=>
 bif(!b.1.1) then
 some ((([]:B),()),())
else
(f68 (((a.1.1.1,a.1.1.2.1,a.1.1.2.2.1,a.1.1.2.2.2.1,()),()),())).bind fun c=>
(f69 ((c.1.1,()),())).bind fun d=>
(cc ([115,117,109,32]:B) d.1.1).bind fun e=>
(cc e ([10]:B)).bind fun f=>
(cc f c.1.1).bind fun g=>
 some ((g,()),())
noncomputable def NO:aI:=aL af Tryz.f36 i36 ab7 [] f36
theorem abm:aF O 36 NO:=aM aA1 Tryz.func36 (by kernel_rfl) ag (fun y=>by kernel_rfl) fun a=>by kernel_rfl
noncomputable abbrev aAc:a8:=[(83,yc),(123,L_)]
theorem adO:aT O (aZ af aAc):=aY ⟨DZ,XM,⟨⟩⟩
abbrev B':Shape:=⟨[ax 1 1 0,am 3,aj 4],[aw 1 [br .pack]],28⟩
abbrev JN:List aR:=[(.exit 0,⟨[am 3],[],28⟩)]
noncomputable def CA(y:B'.J):bQ B' JN:=
 bif(decide (y.1.2.2.1<(y.2.1.1.length:Int))) then
(aS y.2.1.1 y.1.2.2.1).bind fun a=>
(f123 (((a.name,a.a6,a.bl,a.bI,()),()),())).bind fun b=>
(f83 (((b.1.1.length:Int),()),())).bind fun c=>
(cc y.1.2.1 c.1.1).bind fun d=>
(cc d ([10]:B)).bind fun e=>
(cc e b.1.1).bind fun f=>
 some (.inl (((),f,(IntKind.i64.wrap (y.1.2.2.1+(1:Int))),()),(y.2.1.1,()),()))
else
 some (.inr ((y.1.2.1,()),()))
noncomputable def J':B'.J->Option (aH JN):=bA CA
theorem app:aV O (ap (codeOf Tryz.f70) 1 58) (aX B' JN J'):=bT adO (by kernel_rfl) ag fun y=>by kernel_rfl
abbrev i70:Shape:=⟨[ck 0 [br .pack]],[],28⟩
abbrev abO:Shape:=⟨[am 2],[],28⟩
noncomputable def f70(a:i70.J):Option abO.J:=
(J' (((),([]:B),(0:Int),()),(a.1.1.1,()),())).bind fun b=>
 some ((b.1.1,()),())
noncomputable def EH:aI:=aL af Tryz.f70 i70 abO [] f70
theorem z70:aF O 70 EH:=aM adO Tryz.func70 (by kernel_rfl) (a7 app ag) (fun y=>by kernel_rfl) fun a=>by kernel_rfl
noncomputable abbrev aAw:a8:=[(30,so),(70,EH)]
theorem aA0:aT O (aZ af aAw):=aY ⟨uA,z70,⟨⟩⟩
abbrev i37:Shape:=⟨[ck 0 [br .pack]],[],8⟩
abbrev ab6:Shape:=⟨[am 2],[],8⟩
noncomputable def f37(a:i37.J):Option ab6.J:=
(f30 (((a.1.1.1,()),()),())).bind fun b=>
 bif(!b.1.1) then
 some ((([]:B),()),())
else
(f70 (((a.1.1.1,()),()),())).bind fun c=>
 some ((c.1.1,()),())
noncomputable def adD:aI:=aL af Tryz.f37 i37 ab6 [] f37
theorem z37:aF O 37 adD:=aM aA0 Tryz.func37 (by kernel_rfl) ag (fun y=>by kernel_rfl) fun a=>by kernel_rfl
def eb(k:Int):B:=bif k==1 then [61] else bif k==2 then [62,61] else bif k==3 then [60] else []
theorem Gc(k:Int):(eb k).length<=2:=by unfold eb;cases k==1<;>cases k==2<;>cases k==3<;>decide
def cZ(n:bD):B:=n.name++eb n.kind++n.a6
theorem RH(k:Int):f225 ((k,()),())=some ((eb k,()),()):=by
 simp only[f225,eb];cases k==1<;>cases k==2<;>cases k==3<;>rfl
theorem Hb{n:bD}(hb:yn n):(cZ n).length<=4194306:=by
 have:=Gc n.kind;have h1:=hb.1;have h2:=hb.2;unfold cZ;simp;omega
theorem SY(n:bD)(hb:yn n):f218 (((n.name,(n.kind,(n.a6,()))),()),())=some ((cZ n,()),()):=by
 have:=Gc n.kind;have h1:=hb.1;have h2:=hb.2;have ayp:=RH n.kind;simp only[f218,ayp,Y];rw[dS (by omega),Y,dS (by simp;omega)]
 rfl
theorem ahK{n:bD}(h:dR n=true)(h1:(n.kind==1)=false)(h2:(n.kind==2)=false)(h3:(n.kind==3)=false):n.a6=[]:=by
 unfold dR at h;simp only[bz,Bool.or_eq_true] at h;rcases h.2 with h|h
 ·exact eq_of_beq h.2
 ·have:=s0 h.1;simp at h1 h2 h3;omega
theorem aiz(n:bD)(hb:yn n)(f':dR n=true):f119 (((n.name,(n.kind,(n.a6,()))),()),())=some ((cZ n,()),()):=by
 have h0:=zc (((n.name,(n.kind,(n.a6,()))),()),()) hb.1 hb.2;have h0:f102 (((n.name,(n.kind,(n.a6,()))),()),())=some ((dR n,()),()):=h0;have h1:=hb.1;have h2:=hb.2;simp only[f119,h0,f',Y,bu,ak,cZ,eb];cases aG:(n.kind==1) with
 |true=>
  simp only[ad];rw[dS (by simp;omega),Y,dS (by simp;omega)]
  rfl
 |false=>
  cases aK:(n.kind==2) with
  |true=>
   simp only[ad,ak];rw[dS (by simp;omega),Y,dS (by simp;omega)]
   rfl
  |false=>
   cases bP:(n.kind==3) with
   |true=>
    simp only[ad,ak];rw[dS (by simp;omega),Y,dS (by simp;omega)]
    rfl
   |false=>simp only[ak,ahK f' aG aK bP,List.append_nil]
def cM(n:bD):B:=[110,101,101,100,32]++cZ n++[10]
theorem aju{n:bD}(hb:yn n):(cM n).length<=4194312:=by
 have:=Hb hb;unfold cM;simp;omega
def iG(p:aJ):B:=[112,97,99,107,32]++p.name++[32]++p.a6++[10]
def dJ(p:aJ):B:=iG p++p.bl.flatMap cM++[10]++dt p.bI
def bJ(p:aJ):B:=[115,117,109,32]++qa (dJ p)++[10]++dJ p
def dz(s:B):B:=Lib.itoa (s.length:Int)++[10]++s
def cK(ps:List aJ):B:=ps.flatMap fun p=>dz (bJ p)
theorem nn{p:aJ}(h:cx p=true):iV p.name=true/\eE p.a6=true/\(∀n,n∈p.bl->dR n=true)/\p.bl.length<=6/\kd [] (p.name::p.bl.map (·.name))=false/\dQ p.bI=true:=by
 unfold cx at h;simp only[bz] at h;obtain⟨⟨⟨h1,h2⟩,h3⟩,aD⟩:=h;unfold ra at h3;simp only[bz,dW,List.all_eq_true,Bool.not_eq_true'] at h3;exact⟨h1,h2,h3.1.1,h3.1.2,h3.2,aD⟩
theorem qO{t:List aB}(h:dQ t=true):∀e,e∈t->og e:=fun e he=>HK (vp h e he)
theorem vk{ns:List bD}(hb:ux ns)(hl:ns.length<=6)(i:Nat):((ns.take i).flatMap cM).length<=25165872:=by
 have h1:=nw (f:=cM) (xs:=ns.take i) (n:=4194312) fun n hn=>aju (hb.2 n (qS hn))
 have h2:=(List.take_sublist i ns).length_le;exact Nat.le_trans h1 (by omega)
theorem GK{p:aJ}(hb:jW p)(hk:cx p=true):(dJ p).length<=100663296:=by
 obtain⟨_,_,_,cl,_,ay⟩:=nn hk;have h1:=vk hb.2.2.1 cl p.bl.length;rw[List.take_length] at h1;have h2:=y5 (qO ay) hb.2.2.2 (j2 ay);have h3:=hb.1;have aD:=hb.2.1;unfold dJ iG;generalize p.bl.flatMap cM=A at h1 ⊢;generalize dt p.bI=bx at h2 ⊢;simp;omega
theorem Ha{p:aJ}(hb:jW p)(hk:cx p=true):(bJ p).length<=100663400:=by
 have:=GK hb hk;unfold bJ;generalize dJ p=bx at this ⊢;simp[zJ];omega
theorem akd(p:aJ)(hb:jW p)(hk:cx p=true):f172 (((p.name,(p.a6,(p.bl,(p.bI,())))),()),())=some ((dJ p,()),()):=by
 obtain⟨_,_,hn,cl,_,ay⟩:=nn hk;have h3:=hb.1;have aD:=hb.2.1;have EY:=FX p.bI (qO ay) hb.2.2.2 (j2 ay);have ayK:(iG p).length<=4194320:=by unfold iG;simp;omega
 have aG:I0 (((),(iG p,((0:Int),()))),((p.name,(p.a6,(p.bl,(p.bI,())))),()))=some (((),(iG p++p.bl.flatMap cM,())),((p.name,(p.a6,(p.bl,(p.bI,())))),())):=by
  have:=gd (g:=Bw) (fun i=>(((),(iG p++(p.bl.take i).flatMap cM,((i:Int),()))),((p.name,(p.a6,(p.bl,(p.bI,())))),()))) p.bl.length (b:=(((),(iG p++p.bl.flatMap cM,())),((p.name,(p.a6,(p.bl,(p.bI,())))),()))) (fun i hi=>?_) ?_ p.bl.length 0 (by omega)
  ·rw[List.take_zero,List.flatMap_nil,List.append_nil] at this;exact this
  ·obtain⟨n,he⟩:∃n,p.bl[i]? =some n:=⟨p.bl[i],d_ hi⟩;have eG:=eK he;have jb:=vk hb.2.2.1 cl i;have hY:=Hb (hb.2.2.1.2 n eG);simp only[Bw,ct hi,ad,cd,he,Y,SY n (hb.2.2.1.2 n eG),np cM he,b9 (i:=i) (by unfold aA;omega)]
   generalize List.flatMap cM (List.take i p.bl)=A at jb ⊢;rw[dS (by simp;omega),Y,dS (by simp;omega),Y,dS (by simp;omega),Y]
   simp only[cM,List.append_assoc]
  ·simp only[Bw,dK,ak,List.take_length]
 have jb:=vk hb.2.2.1 cl p.bl.length;rw[List.take_length] at jb;have h2:=y5 (qO ay) hb.2.2.2 (j2 ay);have bV:iG p=[112,97,99,107,32]++p.name++[32]++p.a6++[10]:=rfl;simp only[f172];repeat(rw[dS (by simp;omega),Y])
 rw[<-bV,aG];simp only[Y,dJ];generalize p.bl.flatMap cM=A at jb ⊢;rw[dS (by simp;omega),Y,EY,Y]
 generalize dt p.bI=bx at h2 ⊢;rw[dS (by simp;omega)]
 rfl
theorem HT(p:aJ)(hb:jW p)(hk:cx p=true):f123 (((p.name,(p.a6,(p.bl,(p.bI,())))),()),())=some ((bJ p,()),()):=by
 have hl:=GK hb hk;have h1:=ara (dJ p) (by unfold qG;omega)
 have hs:=zJ (dJ p);simp only[f123,akd p hb hk,h1,Y,bJ];generalize qa (dJ p)=S at hs ⊢;generalize dJ p=bx at hl ⊢;rw[dS (by simp;omega),Y,dS (by simp;omega),Y,dS (by simp;omega)]
 rfl
theorem ag8(p:aJ)(hb:jW p)(hk:cx p=true):f68 (((p.name,(p.a6,(p.bl,(p.bI,())))),()),())=some ((dJ p,()),()):=by
 obtain⟨_,_,hn,cl,_,ay⟩:=nn hk;have h3:=hb.1;have aD:=hb.2.1;have EY:=agi p.bI hb.2.2.2;rw[ay] at EY;have ayK:(iG p).length<=4194320:=by unfold iG;simp;omega
 have aG:IM (((),((),(p.bl,((p.bl.length:Int),((0:Int),()))))),((p.name,(p.a6,(p.bl,(p.bI,())))),(bytesOf (iG p),(((),((),())),()))))=some (((),((),())),((p.name,(p.a6,(p.bl,(p.bI,())))),(bytesOf (iG p++p.bl.flatMap cM),(((),((),())),())))):=by
  have:=gd (g:=Bn) (fun i=>(((),((),(p.bl,((p.bl.length:Int),((i:Int),()))))),((p.name,(p.a6,(p.bl,(p.bI,())))),(bytesOf (iG p++(p.bl.take i).flatMap cM),(((),((),())),()))))) p.bl.length (b:=(((),((),())),((p.name,(p.a6,(p.bl,(p.bI,())))),(bytesOf (iG p++p.bl.flatMap cM),(((),((),())),()))))) (fun i hi=>?_) ?_ p.bl.length 0 (by omega)
  ·rw[List.take_zero,List.flatMap_nil,List.append_nil] at this;exact this
  ·obtain⟨n,he⟩:∃n,p.bl[i]? =some n:=⟨p.bl[i],d_ hi⟩;have eG:=eK he;have jb:=vk hb.2.2.1 cl i;have hY:=Hb (hb.2.2.1.2 n eG);simp only[Bn,ct hi,ad,cd,he,Y,aiz n (hb.2.2.1.2 n eG) (hn n eG),np cM he,b9 (i:=i) (by unfold aA;omega)]
   generalize List.flatMap cM (List.take i p.bl)=A at jb ⊢;rw[dS (by simp;omega),Y,dS (by simp;omega),Y,pL _ _ (by unfold aA;rw[jB];simp;omega),Y,<-List.append_assoc,pw (iG p++A)]
   rfl
  ·simp only[Bn,dK,ak,List.take_length]
 have jb:=vk hb.2.2.1 cl p.bl.length;rw[List.take_length] at jb;have h2:=y5 (qO ay) hb.2.2.2 (j2 ay);have bV:iG p=[112,97,99,107,32]++p.name++[32]++p.a6++[10]:=rfl;simp only[f68];repeat(rw[dS (by simp;omega),Y])
 rw[<-bV,pL _ _ (by unfold aA;simp;omega),Y]
 simp only[List.nil_append,aG,Y,EY,ad,dJ];generalize p.bl.flatMap cM=A at jb ⊢;generalize dt p.bI=bx at h2 ⊢;rw[dS (by simp;omega),Y,pL _ _ (by unfold aA;rw[jB];simp;omega),Y]
 rw[<-pw,vm,List.append_assoc _ [10] bx]
theorem FB(p:aJ)(hb:jW p):f36 (((p.name,(p.a6,(p.bl,(p.bI,())))),()),())=some ((bif cx p then bJ p else [],()),()):=by
 have h0:=zb (((p.name,(p.a6,(p.bl,(p.bI,())))),()),()) hb;have h0:f55 (((p.name,(p.a6,(p.bl,(p.bI,())))),()),())=some ((cx p,()),()):=h0;simp only[f36,h0,Y];cases hk:cx p with
 |false=>rfl
 |true=>
  have hl:=GK hb hk;have h1:=aoY (dJ p) (by unfold qG;omega)
  have hs:=zJ (dJ p);simp only[bu,ak,ad,ag8 p hb hk,h1,Y,bJ];generalize qa (dJ p)=S at hs ⊢;generalize dJ p=bx at hl ⊢;rw[dS (by simp;omega),Y,dS (by simp;omega),Y,dS (by simp;omega)]
  rfl
theorem Gb{p:aJ}(hb:jW p)(hk:cx p=true):(dz (bJ p)).length<=100663500:=by
 have h1:=Ha hb hk;have h2:=ku (bJ p).length (by omega)
 unfold dz;simp;omega
theorem ae8{ps:List aJ}(hb:fS ps)(hk:∀p,p∈ps->cx p=true)(i:Nat):((ps.take i).flatMap fun p=>dz (bJ p)).length<=211106660352000:=by
 have h1:=nw (f:=fun p=>dz (bJ p)) (xs:=ps.take i) (n:=100663500) fun p hp=>Gb (hb.2 p (qS hp)) (hk p (qS hp))
 have h2:=(List.take_sublist i ps).length_le;have h3:ps.length<=2097152:=hb.1;have aD:(ps.take i).length*100663500<=2097152*100663500:=Nat.mul_le_mul_right _ (by omega)
 omega
theorem As(ps:List aJ)(hb:fS ps)(hk:∀p,p∈ps->cx p=true):f70 (((ps,()),()),())=some ((cK ps,()),()):=by
 have aG:J' (((),(([]:B),((0:Int),()))),((ps,()),()))=some ((cK ps,()),()):=by
  refine gd (g:=CA) (fun i=>(((),((ps.take i).flatMap (fun p=>dz (bJ p)),((i:Int),()))),((ps,()),()))) ps.length (fun i hi=>?_) ?_ ps.length 0 (by omega)
  ·obtain⟨p,he⟩:∃p,ps[i]? =some p:=⟨ps[i],d_ hi⟩;have eG:=eK he;have jb:=ae8 hb hk i;have hY:=Ha (hb.2 p eG) (hk p eG);have h2:=ku (bJ p).length (by omega)
   have o6:=hb.1;simp only[CA,ct hi,ad,cd,he,Y,HT p (hb.2 p eG) (hk p eG),At (bJ p).length (by omega),np (fun p=>dz (bJ p)) he,b9 (i:=i) (by unfold aA;omega)]
   generalize List.flatMap (fun p=>dz (bJ p)) (List.take i ps)=A at jb ⊢
   rw[dS (by omega),Y,dS (by simp;omega),Y,dS (by simp;omega),Y]
   simp only[dz,List.append_assoc]
  ·simp only[CA,dK,ak,List.take_length];rfl
 simp only[f70,aG,Y]
theorem kT{ps:List aJ}(h:eY ps=true):(∀p,p∈ps->cx p=true)/\ps.length<=5:=by
 unfold eY at h;simp only[bz,dW,List.all_eq_true] at h;exact⟨h.1.1.1.1,h.1.1.2⟩
theorem aix(ps:List aJ)(hb:fS ps)(hv:ko ps):f37 (((ps,()),()),())=some ((bif eY ps then cK ps else [],()),()):=by
 have h0:=zH (((ps,()),()),()) hb hv;have h0:f30 (((ps,()),()),())=some ((eY ps,()),()):=h0;simp only[f37,h0,Y];cases hr:eY ps with
 |false=>rfl
 |true=>simp only[bu,ak,ad,As ps hb (kT hr).1,Y]
def cp(c:UInt8)(s:B):Prop:=∀x,x∈s->x≠c
theorem cp.dh{c:UInt8}{s t:B}(h:cp c s)(k:cp c t):cp c (s++t):=fun x hx=>(bo.1 hx).elim (h x) (k x)
theorem cp.nil(c:UInt8):cp c []:=fun x hx=>by cases hx
theorem cp.tail{c b:UInt8}{s:B}(h:cp c (b::s)):cp c s:=fun x hx=>h x (ci _ hx)
theorem cp.head{c b:UInt8}{s:B}(h:cp c (b::s)):(b==c)=false:=by
 have:=h b cj;simpa using this
theorem cp.lit{c:UInt8}{s:B}(h:s.all (fun x=>!(x==c))=true):cp c s:=fun x hx=>by
 have:=List.all_eq_true.1 h x hx;simpa using this
theorem QP{c:UInt8}:∀{s:B},cp c s->bO c s=[s]:=by
 intro s;induction s with
 |nil=>intro _;rfl
 |cons b r ih=>
  intro h;unfold bO;rw[h.head,ih h.tail];rfl
theorem Pp(c b:UInt8)(r:B):bO c (b::r)=bif b==c then []::bO c r else match bO c r with|x::xs=>(b::x)::xs|[]=>[[b]]:=rfl
theorem sN{c:UInt8}{b:B}:∀{a:B},cp c a->bO c (a++c::b)=a::bO c b:=by
 intro a;induction a with
 |nil=>intro _;show bO c (c::b)=_;rw[Pp,beq_self_eq_true];rfl
 |cons x r ih=>
  intro h;show bO c (x::(r++c::b))=_;rw[Pp,h.head,ih h.tail];rfl
theorem PV{c x:UInt8}:∀{s:B},x∈s->x≠c->∃p,p∈bO c s/\x∈p:=by
 intro s;induction s with
 |nil=>intro h;cases h
 |cons b r ih=>
  intro h hx;unfold bO;cases hb:b==c with
  |true=>
   have hb:=eq_of_beq hb;rcases bR.1 h with rfl|h
   ·exact absurd hb hx
   ·obtain⟨p,h1,h2⟩:=ih h hx;exact⟨p,ci _ h1,h2⟩
  |false=>
   simp only[ak];have hne:=px c r;split
   ·rename_i y bm hy;rcases bR.1 h with rfl|h
    ·exact⟨_,cj,cj⟩
    ·obtain⟨p,h1,h2⟩:=ih h hx;rw[hy] at h1;rcases bR.1 h1 with rfl|h1
     ·exact⟨_,cj,ci _ h2⟩
     ·exact⟨p,ci _ h1,h2⟩
   ·rename_i hy;exact absurd hy hne
def dC(c:UInt8):B->Option (B×B)
 |[]=>none
 |b::r=>bif b==c then some ([],r) else match dC c r with
  |some (x,y)=>some (b::x,y)
  |none=>none
theorem aom{c:UInt8}:∀{s:B},cp c s->dC c s=none:=by
 intro s;induction s with
 |nil=>intro _;rfl
 |cons b r ih=>intro h;simp only[dC,h.head,ak,ih h.tail]
theorem s7{c:UInt8}{b:B}:∀{a:B},cp c a->dC c (a++c::b)=some (a,b):=by
 intro a;induction a with
 |nil=>intro _;simp[dC]
 |cons x r ih=>intro h;show dC c (x::(r++c::b))=_;simp only[dC,h.head,ak,ih h.tail]
theorem iT{c:UInt8}:∀{s x y:B},dC c s=some (x,y)->s=x++c::y/\cp c x:=by
 intro s;induction s with
 |nil=>intro x y h;cases h
 |cons b r ih=>
  intro x y h;simp only[dC] at h;cases hb:b==c with
  |true=>
   rw[hb] at h;simp only[ad,bH,Prod.mk.injEq] at h;obtain⟨rfl,rfl⟩:=h;exact⟨by rw[eq_of_beq hb];rfl,cp.nil c⟩
  |false=>
   rw[hb] at h;simp only[ak] at h;split at h
   ·rename_i iQ y' hc;cases h;obtain⟨h1,h2⟩:=ih hc;refine⟨by rw[h1];rfl,fun z hz=>?_⟩
    rcases bR.1 hz with rfl|hz
    ·simpa using hb
    ·exact h2 z hz
   ·cases h
theorem ajZ{c:UInt8}:∀{s:B},dC c s=none->cp c s:=by
 intro s;induction s with
 |nil=>intro _;exact cp.nil c
 |cons b r ih=>
  intro h;simp only[dC] at h;cases hb:b==c with
  |true=>rw[hb] at h;cases h
  |false=>
   rw[hb] at h;simp only[ak] at h;split at h
   ·cases h
   ·rename_i hc;intro z hz;rcases bR.1 hz with rfl|hz
    ·simpa using hb
    ·exact ih hc z hz
theorem Ud(c:UInt8):∀s:B,Lib.indexByte s c=match dC c s with|some (x,_)=>(x.length:Int)|none=>-1:=by
 intro s;induction s with
 |nil=>rfl
 |cons b r ih=>
  simp only[dC];unfold Lib.indexByte;cases hb:b==c with
  |true=>simp
  |false=>
   rw[ih];simp only[ak];cases hc:dC c r with
   |none=>simp
   |some q=>obtain⟨x,y⟩:=q;simp
theorem PW(c:UInt8)(s:B):bO c s=match dC c s with|some (x,y)=>x::bO c y|none=>[s]:=by
 cases h:dC c s with
 |none=>exact QP (ajZ h)
 |some q=>
  obtain⟨x,y⟩:=q;obtain⟨h1,h2⟩:=iT h;show bO c s=x::bO c y;rw[h1];exact sN h2
theorem Fl{s:B}(h:iV s=true):∀x,x∈s->(97<=x.toNat/\x.toNat<=122)\/(48<=x.toNat/\x.toNat<=57):=by
 cases s with
 |nil=>cases h
 |cons b r=>
  rw[Pw] at h;simp only[bz] at h;intro x hx;have:=List.all_eq_true.1 h.1.2 x hx;simp only[jn,cR,Bool.or_eq_true,bz,dW] at this;omega
theorem Q_{s:B}(h:iV s=true){c:UInt8}(hc:c.toNat<48\/(57<c.toNat/\c.toNat<97)):cp c s:=fun x hx e=>by
 have:=Fl h x hx;rw[e] at this;omega
theorem afu{s:B}(h:eE s=true):∀x,x∈s->x=46\/(48<=x.toNat/\x.toNat<=57):=by
 intro x hx;by_cases he:x=46
 ·exact .inl he
 ·obtain⟨p,h1,h2⟩:=PV hx he;unfold eE iF at h;simp only[bz] at h;have:=List.all_eq_true.1 h.1 p h1;unfold fR at this;simp only[bz] at this;have:=jf (List.all_eq_true.1 this.1.1.1.1 x h2);exact .inr (by omega)
theorem Ql{s:B}(h:eE s=true){c:UInt8}(hc:c.toNat<48\/57<c.toNat)(aa:c≠46):cp c s:=fun x hx e=>by
 rcases afu h x hx with h1|h1
 ·exact aa (e▸h1)
 ·rw[e] at h1;omega
theorem Q'{s:B}(h:gJ s=true){c:UInt8}(hc:kw c.toNat=false)(aa:c≠47):cp c s:=fun x hx e=>by
 subst e;obtain⟨p,h1,h2⟩:=PV hx aa;unfold gJ at h;simp only[bz] at h;have:=List.all_eq_true.1 h.1 p h1;unfold kC at this;simp only[bz] at this;have:=List.all_eq_true.1 this.1.1.1 x h2;rw[hc] at this;cases this
theorem Jw:∀n:Nat,(Lib.decDigits n).all cR=true:=by
 intro n;induction n using Nat.strongRecOn with
 |_ n ih=>
  have aa:∀m:Nat,m<10->cR (UInt8.ofNat (48+m))=true:=fun m hm=>by
   unfold cR;have:(UInt8.ofNat (48+m)).toNat=48+m:=by rw[UInt8.toNat_ofNat'];omega
   rw[this];simp;omega
  rw[Lib.decDigits];split
  ·rename_i h;show(cR _&&true)=true;rw[aa n h];rfl
  ·rename_i h;rw[List.all_append,ih (n/10) (by omega)]
   show(true&&(cR _&&true))=true;rw[aa (n%10) (by omega)];rfl
theorem Wh(n:Nat):Lib.decDigits n≠[]:=by
 rw[Lib.decDigits];split<;>simp
theorem Jv:∀n:Nat,db (Lib.decDigits n)=(n:Int):=by
 intro n;induction n using Nat.strongRecOn with
 |_ n ih=>
  have aa:∀m:Nat,m<10->((UInt8.ofNat (48+m)).toNat:Int)-48=(m:Int):=fun m hm=>by
   have:(UInt8.ofNat (48+m)).toNat=48+m:=by rw[UInt8.toNat_ofNat'];omega
   rw[this];omega
  rw[Lib.decDigits];split
  ·rename_i h;show en 0 _=_;unfold en;rw[aa n h];omega
  ·rename_i h;have:=ih (n/10) (by omega)
   unfold db at this ⊢;rw[List.foldl_append,this];show en _ _=_;unfold en;rw[aa (n%10) (by omega)];omega
theorem ajY:∀n:Nat,1<=n->∃b r,Lib.decDigits n=b::r/\((b.toNat:Int)==48)=false:=by
 intro n;induction n using Nat.strongRecOn with
 |_ n ih=>
  intro hn;rw[Lib.decDigits];split
  ·rename_i h;refine⟨_,[],rfl,?_⟩;have:(UInt8.ofNat (48+n)).toNat=48+n:=by rw[UInt8.toNat_ofNat'];omega
   rw[this,beq_eq_false_iff_ne];omega
  ·rename_i h;obtain⟨b,r,h1,h2⟩:=ih (n/10) (by omega) (by omega)
   rw[h1];exact⟨b,_,rfl,h2⟩
theorem SP(n:Nat):hN (Lib.decDigits n)=false:=by
 by_cases h:n<10
 ·rw[Lib.decDigits,dif_pos h];rfl
 ·obtain⟨b,r,h1,h2⟩:=ajY n (by omega)
  rw[h1];cases r with
  |nil=>rfl
  |cons x r=>exact h2
theorem HM:∀(k n:Nat),n<10^(k+1)->(Lib.decDigits n).length<=k+1:=by
 intro k;induction k with
 |zero=>intro n h;rw[Lib.decDigits,dif_pos (by omega)];simp
 |succ k ih=>
  intro n h;rw[Lib.decDigits];split
  ·simp
  ·have:=ih (n/10) (by rw[Nat.pow_succ] at h;omega)
   simp;omega
theorem aqb(n:Nat){c:UInt8}(hc:c.toNat<48\/57<c.toNat):cp c (Lib.decDigits n):=fun x hx e=>by
 have:=jf (List.all_eq_true.1 (Jw n) x hx);rw[e] at this;omega
theorem Ub(n:Nat){c:UInt8}(hc:c.toNat<48\/57<c.toNat):cp c (Lib.itoa (n:Int)):=by rw[qW];exact aqb n hc
theorem aog:∀k:Nat,k<16->jM k≠10/\jM k≠32:=by decide
theorem Ue(w:Int):cp 10 (gm w):=fun x hx=>by
 simp only[gm,bR,List.not_mem_nil,or_false] at hx;rcases hx with rfl|rfl|rfl|rfl|rfl|rfl|rfl|rfl<;>exact(aog _ (Nat.mod_lt _ (by decide))).1
theorem Tl(s:B):cp 10 (qa s):=(Ue _).dh (Ue _)
def im:B:=[100,105,114]
def ik:B:=[108,105,110,107]
def iH:B:=[102,105,108,101]
def mA(e:aB):List B:=bif e.kind==1 then [im,Lib.itoa e.mode,e.path] else bif e.kind==3 then [ik,e.path,e.text] else [iH,Lib.itoa e.mode,e.path,Lib.itoa (e.text.length:Int)]
def lY:List B->B
 |[]=>[]
 |[x]=>x
 |x::y::r=>x++32::lY (y::r)
def pZ(e:aB):B:=lY (mA e)
theorem P7:∀{ws:List B},ws≠[]->(∀w,w∈ws->cp 32 w)->bO 32 (lY ws)=ws:=by
 intro ws;induction ws with
 |nil=>intro h;exact absurd rfl h
 |cons x r ih=>
  intro _ h;cases r with
  |nil=>exact QP (h x cj)
  |cons y r=>
   show bO 32 (x++32::lY (y::r))=_;rw[sN (h x cj),ih (by simp) fun w hw=>h w (ci _ hw)]
theorem Ua{c:UInt8}(hc:c≠32):∀{ws:List B},(∀w,w∈ws->cp c w)->cp c (lY ws):=by
 intro ws;induction ws with
 |nil=>intro _;exact cp.nil c
 |cons x r ih=>
  intro h;cases r with
  |nil=>exact h x cj
  |cons y r=>
   refine(h x cj).dh fun z hz=>?_
   rcases bR.1 hz with rfl|hz
   ·exact fun e=>hc e.symm
   ·exact ih (fun w hw=>h w (ci _ hw)) z hz
theorem ah1{e:aB}(h:e9 e=true):gJ e.path=true:=by
 unfold e9 at h;simp only[bz] at h;exact h.1
theorem FR{e:aB}(h:e9 e=true)(hk:e.kind=3):gJ e.text=true/\e.mode=0:=by
 unfold e9 at h;rw[hk] at h;simp only[bz] at h;have h2:((e.mode==0)&&gJ e.text)=true:=h.2;simp only[bz,beq_iff_eq] at h2;exact⟨h2.2,h2.1⟩
theorem Rr{e:aB}(h:e9 e=true)(hk:e.kind=1):e.text=[]:=by
 unfold e9 at h;rw[hk] at h;simp only[bz] at h;have h2:(within e.mode 0 7&&e.text==[])=true:=h.2;simp only[bz] at h2;exact eq_of_beq h2.2
theorem Qb{e:aB}(h:e9 e=true)(hk:e.kind=2):oG e.text=true:=by
 unfold e9 at h;rw[hk] at h;simp only[bz] at h;have h2:(within e.mode 0 7&&oG e.text)=true:=h.2;simp only[bz] at h2;exact h2.2
theorem He{e:aB}(h:e9 e=true):∃n:Nat,e.mode=n/\n<=7:=by
 have:=HK h;obtain⟨n,hn⟩:=Int.eq_ofNat_of_zero_le this.1;exact⟨n,hn,by have:=this.2;omega⟩
theorem Ci{s:B}(h:gJ s=true):cp 32 s:=Q' h (by decide) (by decide)
theorem Cj{s:B}(h:gJ s=true):cp 10 s:=Q' h (by decide) (by decide)
theorem Ke(n:Nat):cp 32 (Lib.itoa (n:Int)):=Ub n (by decide)
theorem Co(n:Nat):cp 10 (Lib.itoa (n:Int)):=Ub n (by decide)
theorem FV{e:aB}(h:e9 e=true):(∀w,w∈mA e->cp 32 w)/\∀w,w∈mA e->cp 10 w:=by
 obtain⟨n,hn,_⟩:=He h;have hp:=ah1 h;unfold mA;rw[hn];rcases vu h with hk|hk|hk<;>rw[hk]
 ·refine⟨fun w hw=>?_,fun w hw=>?_⟩<;>have hw:w∈[im,Lib.itoa (n:Int),e.path]:=hw<;>simp only[bR,List.not_mem_nil,or_false] at hw<;>rcases hw with rfl|rfl|rfl
  ·exact cp.lit (by decide)
  ·exact Ke n
  ·exact Ci hp
  ·exact cp.lit (by decide)
  ·exact Co n
  ·exact Cj hp
 ·refine⟨fun w hw=>?_,fun w hw=>?_⟩<;>have hw:w∈[iH,Lib.itoa (n:Int),e.path,Lib.itoa (e.text.length:Int)]:=hw<;>simp only[bR,List.not_mem_nil,or_false] at hw<;>rcases hw with rfl|rfl|rfl|rfl
  ·exact cp.lit (by decide)
  ·exact Ke n
  ·exact Ci hp
  ·exact Ke _
  ·exact cp.lit (by decide)
  ·exact Co n
  ·exact Cj hp
  ·exact Co _
 ·have ay:=(FR h hk).1;refine⟨fun w hw=>?_,fun w hw=>?_⟩<;>have hw:w∈[ik,e.path,e.text]:=hw<;>simp only[bR,List.not_mem_nil,or_false] at hw<;>rcases hw with rfl|rfl|rfl
  ·exact cp.lit (by decide)
  ·exact Ci hp
  ·exact Ci ay
  ·exact cp.lit (by decide)
  ·exact Cj hp
  ·exact Cj ay
theorem alG{e:aB}(h:e9 e=true):cp 10 (pZ e):=Ua (by decide) (FV h).2
def wO(e:aB)(r:B):B:=bif e.kind==2 then e.text++10::r else r
theorem alF{e:aB}(h:e9 e=true)(r:B):et e++r=pZ e++10::wO e r:=by
 unfold et pZ mA wO;rcases vu h with hk|hk|hk<;>rw[hk]
 ·simp[lY,im]
 ·simp[lY,iH]
 ·simp[lY,ik]
theorem Rg{e:aB}(h:e9 e=true)(r:B):dC 10 (et e++r)=some (pZ e,wO e r):=by
 rw[alF h];exact s7 (alG h)
def iX:B:=[112,97,99,107]
def gj:B:=[110,101,101,100]
def ew(p:aJ):B:=lY [iX,p.name,p.a6]
theorem XV{s:B}(h:iV s=true):cp 32 s:=Q_ h (by decide)
theorem XW{s:B}(h:iV s=true):cp 10 s:=Q_ h (by decide)
theorem XN{s:B}(h:eE s=true):cp 32 s:=Ql h (by decide) (by decide)
theorem XO{s:B}(h:eE s=true):cp 10 s:=Ql h (by decide) (by decide)
theorem Fx{p:aJ}(h:cx p=true):bO 32 (ew p)=[iX,p.name,p.a6]:=by
 obtain⟨h1,h2,_⟩:=nn h;refine P7 (by simp) fun w hw=>?_
 simp only[bR,List.not_mem_nil,or_false] at hw;rcases hw with rfl|rfl|rfl
 ·exact cp.lit (by decide)
 ·exact XV h1
 ·exact XN h2
theorem SE{p:aJ}(h:cx p=true):cp 10 (ew p):=by
 obtain⟨h1,h2,_⟩:=nn h;refine Ua (by decide) fun w hw=>?_
 simp only[bR,List.not_mem_nil,or_false] at hw;rcases hw with rfl|rfl|rfl
 ·exact cp.lit (by decide)
 ·exact XW h1
 ·exact XO h2
def jh(p:aJ):B:=p.bl.flatMap cM++10::dt p.bI
theorem vL(p:aJ):dJ p=ew p++10::jh p:=by
 unfold dJ iG ew jh;simp[lY,iX]
theorem Rz{p:aJ}(h:cx p=true):dC 10 (dJ p)=some (ew p,jh p):=by rw[vL];exact s7 (SE h)
def e_(p:aJ):B:=[115,117,109,32]++qa (dJ p)
theorem vU(p:aJ):bJ p=e_ p++10::dJ p:=by unfold bJ e_;simp
theorem alr(p:aJ):dC 10 (bJ p)=some (e_ p,dJ p):=by
 rw[vU];exact s7 ((cp.lit (by decide)).dh (Tl _))
theorem yP{n:bD}(h:dR n=true):iV n.name=true/\((n.kind=0/\n.a6=[])\/((n.kind=1\/n.kind=2\/n.kind=3)/\eE n.a6=true)):=by
 unfold dR at h;simp only[bz,Bool.or_eq_true] at h;refine⟨h.1,?_⟩;rcases h.2 with h2|h2
 ·exact .inl ⟨eq_of_beq h2.1,eq_of_beq h2.2⟩
 ·exact .inr ⟨by have:=s0 h2.1;omega,h2.2⟩
theorem TK{n:bD}(h:dR n=true):cp 10 (cZ n):=by
 obtain⟨h1,h2⟩:=yP h;have hs:cp 10 (eb n.kind):=by unfold eb;cases n.kind==1<;>cases n.kind==2<;>cases n.kind==3<;>exact cp.lit (by decide)
 refine((XW h1).dh hs).dh ?_
 rcases h2 with⟨_,h2⟩|⟨_,h2⟩
 ·rw[h2];exact cp.nil _
 ·exact XO h2
theorem ajv{n:bD}(h:dR n=true)(r:B):dC 10 (cM n++r)=some (gj++32::cZ n,r):=by
 have:cM n++r=(gj++32::cZ n)++10::r:=by unfold cM gj;simp
 rw[this];refine s7 ((cp.lit (by decide)).dh fun z hz=>?_)
 rcases bR.1 hz with rfl|hz
 ·decide
 ·exact TK h z hz
theorem J1(r:B):dC 10 (10::r)=some ([],r):=by simp[dC]
theorem ajt{n:bD}{ns:List bD}{r:B}(h:dR n=true):dC 10 ((n::ns).flatMap cM++r)=some (gj++32::cZ n,ns.flatMap cM++r):=by
 rw[List.flatMap_cons,List.append_assoc];exact ajv h _
theorem QQ(s r:B):dC 10 (dz s++r)=some (Lib.itoa (s.length:Int),s++r):=by
 have:dz s++r=Lib.itoa (s.length:Int)++10::(s++r):=by unfold dz;simp
 rw[this];exact s7 (Co _)
def e'(m:Int)(s:B):Bool:=s.all cR&&!(s==[])&&!hN s&&decide (s.length<=9)&&decide (db s<=m)
theorem y_(s:B)(m:Int)(hs:aA s.length):f115 ((s,(m,())),())=some ((bif e' m s then db s else 0,(e' m s,())),()):=by
 have key:s.length<=9->s5 ((s,(m,((0:Int),((s.length:Int),((0:Int),()))))),())=some (bif allI (fun i x=>cR x) 0 s then .inr ((m,(db s,())),()) else .inl (((0:Int),(false,())),())):=by
  intro iA;have:=mv q3 s (fun i n=>((s,(m,(n,((s.length:Int),((i:Int),()))))),())) (fun i x n=>some (bif cR x then .inl (en n x) else .inr (.inl (((0:Int),(false,())),())))) (fun n=>.inr ((m,(n,())),()))
   (fun i n=>0<=n/\n<10^i/\(i<=9)) (0:Int) ⟨by decide,by decide,by decide⟩ (fun i x n hx dH=>?_) (fun n _=>?_)
  ·exact this.trans (by rw[yV];rfl)
  ·have hi:=da hx;have hw:aA i:=by unfold aA at*;omega
   obtain⟨h0,h1,cl⟩:=dH;refine⟨?_,fun aQ an=>?_⟩
   ·simp only[q3,ct hi,ad,y7,cd,hx,Y,b9 hw,pa,n8,Nz];cases aa:cR x with
    |false=>
     unfold cR at aa;by_cases aD:(48:Int)<=(x.toNat:Int)<;>by_cases bn:(x.toNat:Int)<=57<;>simp[aD,bn] at aa ⊢
    |true=>
     obtain⟨aD,bn⟩:=jf aa;have:=F_ (i:=i) aa (by omega) h0 h1
     simp only[aD,bn,decide_true,bu,bK,ad,ak,Y,cd,hx,this,b9 hw,Bool.and_true,Option.map_some]
   ·simp only[bH] at an;cases aC:cR x with
    |false=>rw[aC] at an;cases an
    |true=>
     rw[aC] at an;simp only[ad,Sum.inl.injEq] at an;subst an;have:=yR aC h0 h1;exact⟨this.1,this.2,by omega⟩
  ·simp only[q3,dK,ak]
 rw[hF] at key;cases s with
 |nil=>rfl
 |cons b r=>
  have hb:aS (b::r) 0=some b:=rfl;have he:((b::r)==([]:B))=false:=rfl;have hl:decide (((b::r).length:Int)>1)=!(r==[]):=by cases r<;>simp;omega
  have iA:decide (((b::r).length:Int)>9)=!decide ((b::r).length<=9):=by by_cases h:(b::r).length<=9<;>simp only[h,decide_true,decide_false,bu,bK,dW,decide_eq_false_iff_not]<;>omega
  have ru:hN (b::r)=(!(r==[])&&(b.toNat:Int)==48):=by cases r<;>rfl
  simp only[f115,BI,he,hl,iA,bK,ad,Bool.not_not,hb,Y];have fin:(b::r).length<=9->hN (b::r)=false->((s5 ((b::r,(m,((0:Int),(((b::r).length:Int),((0:Int),()))))),())).bind fun K7=>match K7 with
    |.inl w6=>some ((w6.1.1,(w6.1.2.1,())),())
    |.inr rE=>bif decide (rE.1.2.1>rE.1.1) then some (((0:Int),(false,())),()) else some ((rE.1.2.1,(true,())),()))=
    some ((bif e' m (b::r) then db (b::r) else 0,(e' m (b::r),())),()):=by
   intro iA kk;rw[key iA];unfold e';rw[he,kk];cases aa:List.all (b::r) cR with
   |false=>rfl
   |true=>
    simp only[ad,Y,bK,Bool.true_and,n8];simp only[iA,decide_true,Bool.true_and];cases decide (db (b::r)<=m)<;>rfl
  by_cases aC:(b::r).length<=9
  ·simp only[aC,decide_true,ad];cases hr:(r==[]) with
   |true=>
    simp only[bu,ak,Y];exact fin aC (by rw[ru,hr];rfl)
   |false=>
    simp only[bK,ad,Y];cases qy:((b.toNat:Int)==48) with
    |true=>
     have:e' m (b::r)=false:=by unfold e';rw[ru,hr,qy];simp
     rw[this];rfl
    |false=>
     simp only[ak];exact fin aC (by rw[ru,hr,qy];rfl)
  ·have:e' m (b::r)=false:=by
    unfold e';rw[decide_eq_false aC];simp
   simp only[aC,decide_false,ak,Y,ad,this]
theorem alw{n:Nat}{m:Int}(h:(n:Int)<=m)(iA:n<1000000000):e' m (Lib.decDigits n)=true:=by
 unfold e';have h1:(Lib.decDigits n==[])=false:=by simpa using Wh n
 have h2:=HM 8 n (by omega)
 rw[Jw,h1,SP,Jv,decide_eq_true h2,decide_eq_true h];rfl
theorem ahT(n:Nat)(h:n<1000000):f74 ((Lib.itoa (n:Int),()),())=some (((n:Int),()),()):=by
 have h1:(Lib.decDigits n==[])=false:=by simpa using Wh n
 have h2:=HM 5 n (by omega)
 have:=HV ((Lib.decDigits n,()),()) (show aA (Lib.decDigits n).length by unfold aA;omega)
 have this:f74 ((Lib.decDigits n,()),())=some ((bif(Lib.decDigits n).all cR&&decide ((Lib.decDigits n).length<=6)&&!(Lib.decDigits n==[])&&!hN (Lib.decDigits n) then db (Lib.decDigits n) else-1,()),()):=this
 rw[qW,this,Jw,decide_eq_true h2,h1,SP,Jv];rfl
def lS{aE:Type}(D:Option aE)(R:aE->Prop):Prop:=∀a,D=some a <-> R a
theorem lS.K2{aE:Type}{D dm:Option aE}{R:aE->Prop}(h:lS D R)(an:lS dm R):D=dm:=by
 cases D with
 |some a=>exact((an a).2 ((h a).1 rfl)).symm
 |none=>
  cases dm with
  |none=>rfl
  |some a=>exact(h a).2 ((an a).1 rfl)
noncomputable abbrev avE:a8:=[(209,LW)]
theorem awF:aT O (aZ af avE):=aY ⟨XF,⟨⟩⟩
abbrev i166:Shape:=⟨[am 0,am 1],[],23⟩
abbrev Y3:Shape:=⟨[am 4,am 5,ar 6],[],23⟩
noncomputable def f166(a:i166.J):Option Y3.J:=
(f209 ((a.1.1,a.1.2.1,()),())).bind fun b=>
 bif(decide (b.1.1>=(0:Int))) then
(bq a.1.1 (0:Int) b.1.1).bind fun c=>
(bq a.1.1 (IntKind.i64.wrap (b.1.1+(a.1.2.1.length:Int))) (a.1.1.length:Int)).bind fun d=>
 some ((c,d,true,()),())
else
 some ((a.1.1,([]:B),false,()),())
noncomputable def aad:aI:=aL af Tryz.f166 i166 Y3 [] f166
theorem as2:aF O 166 aad:=aM awF Tryz.func166 (by kernel_rfl) ag (fun y=>by kernel_rfl) fun a=>by kernel_rfl
noncomputable abbrev awa:a8:=[(166,aad)]
theorem awR:aT O (aZ af awa):=aY ⟨as2,⟨⟩⟩
abbrev i114:Shape:=⟨[am 0,am 1],[],13⟩
abbrev ZD:Shape:=⟨[am 4,am 5,ar 6],[],13⟩
noncomputable def f114(a:i114.J):Option ZD.J:=
(f166 ((a.1.1,a.1.2.1,()),())).bind fun b=>
 some ((b.1.1,b.1.2.1,b.1.2.2.1,()),())
noncomputable def xp:aI:=aL af Tryz.f114 i114 ZD [] f114
theorem Dn:aF O 114 xp:=aM awR Tryz.func114 (by kernel_rfl) ag (fun y=>by kernel_rfl) fun a=>by kernel_rfl
noncomputable def Xs:aI:=Jz
theorem aq1:aF O 250 Xs:=af8 (fn:=Tryz.f250) (by kernel_rfl) (by kernel_rfl) (by kernel_rfl) (by kernel_rfl) (by kernel_rfl)
noncomputable abbrev avg:a8:=[(212,DK),(250,Xs)]
theorem aaP:aT O (aZ af avg):=aY ⟨z212,aq1,⟨⟩⟩
abbrev AJ:Shape:=⟨[am 0,am 1,aj 5],[],34⟩
abbrev H_:List aR:=[(.ret,⟨[aj 4],[],34⟩)]
noncomputable def an9(y:AJ.J):bQ AJ H_:=
(f212 ((y.1.1,y.1.2.1,()),())).bind fun a=>
 bif(a.1.1==((-1):Int)) then
 some (.inr ((y.1.2.2.1,()),()))
else
(bq y.1.1 (IntKind.i64.wrap (a.1.1+(y.1.2.1.length:Int))) (y.1.1.length:Int)).bind fun b=>
 some (.inl ((b,y.1.2.1,(IntKind.i64.wrap (y.1.2.2.1+(1:Int))),()),()))
noncomputable def T5:AJ.J->Option (aH H_):=bA an9
theorem am2:aV O (ap (codeOf Tryz.f211) 1 62) (aX AJ H_ T5):=bT aaP (by kernel_rfl) ag fun y=>by kernel_rfl
abbrev i211:Shape:=⟨[am 0,am 1],[],34⟩
abbrev Yy:Shape:=⟨[aj 4],[],34⟩
noncomputable def f211(a:i211.J):Option Yy.J:=
 bif((a.1.2.1.length:Int)==(0:Int)) then
 none
else
 bif((a.1.2.1.length:Int)==(1:Int)) then
(aS a.1.2.1 (0:Int)).bind fun b=>
(some ()).bind fun c=>
 some ((((Lib.countByte a.1.1 (b.toNat:Int).toNat.toUInt8:Nat):Int),()),())
else
(T5 ((a.1.1,a.1.2.1,(0:Int),()),())).bind fun d=>
 some ((d.1.1,()),())
noncomputable def _P:aI:=aL af Tryz.f211 i211 Yy [] f211
theorem asJ:aF O 211 _P:=aM aaP Tryz.func211 (by kernel_rfl) (a7 am2 ag) (fun y=>by kernel_rfl) fun a=>by kernel_rfl
noncomputable abbrev avD:a8:=[(211,_P),(212,DK)]
theorem Mh:aT O (aZ af avD):=aY ⟨asJ,z212,⟨⟩⟩
abbrev TD:Shape:=⟨[am 0,am 1,aj 2,aj 3],[],66⟩
abbrev Th:List aR:=[(.norm,⟨[am 0,am 1,aj 2,aj 3],[],66⟩)]
noncomputable def Bx(y:TD.J):Option (aH Th):=
 bif(decide (y.1.2.2.2.1<(0:Int))) then
(f211 ((y.1.1,y.1.2.1,()),())).bind fun a=>
 some ((y.1.1,y.1.2.1,y.1.2.2.1,(IntKind.i64.wrap (a.1.1+(1:Int))),()),())
else
 some ((y.1.1,y.1.2.1,y.1.2.2.1,y.1.2.2.2.1,()),())
theorem ank:aV O (ap (codeOf Tryz.f167) 1 30) (aX TD Th Bx):=cn Mh (by kernel_rfl) ag fun y=>by kernel_rfl
abbrev zk:Shape:=⟨[am 0,am 1,aj 2,aj 3,bd 9 3000576,aj 10],[bc 3000576 .str 9 0],66⟩
abbrev F3:List aR:=[(.exit 0,⟨[am 0,bd 9 3000576,aj 10],[bc 3000576 .str 9 0],66⟩)]
noncomputable def zz(y:zk.J):bQ zk F3:=
 bif(decide (y.1.2.2.2.2.2.1<y.1.2.2.2.1)) then
(f212 ((y.1.1,y.1.2.1,()),())).bind fun a=>
 bif(decide (a.1.1<(0:Int))) then
 some (.inr ((y.1.1,(),y.1.2.2.2.2.2.1,()),y.2.1,()))
else
(bq y.1.1 (0:Int) (IntKind.i64.wrap (a.1.1+y.1.2.2.1))).bind fun b=>
(bf y.2.1.length y.1.2.2.2.2.2.1).bind fun c=>
((y.2.1[c]?).bind fun q=>some b).bind fun d=>
(bq y.1.1 (IntKind.i64.wrap (a.1.1+(y.1.2.1.length:Int))) (y.1.1.length:Int)).bind fun e=>
 some (.inl ((e,y.1.2.1,y.1.2.2.1,y.1.2.2.2.1,(),(IntKind.i64.wrap (y.1.2.2.2.2.2.1+(1:Int))),()),(y.2.1.set c d),()))
else
 some (.inr ((y.1.1,(),y.1.2.2.2.2.2.1,()),y.2.1,()))
noncomputable def vz:zk.J->Option (aH F3):=bA zz
theorem ajc:aV O (ap (codeOf Tryz.f167) 1 2044) (aX zk F3 vz):=bT Mh (by kernel_rfl) ag fun y=>by kernel_rfl
abbrev i167:Shape:=⟨[am 0,am 1,aj 2,aj 3],[],66⟩
abbrev Y2:Shape:=⟨[aO 8 .str],[],66⟩
noncomputable def f167(a:i167.J):Option Y2.J:=
 bif(a.1.2.2.2.1==(0:Int)) then
 some ((([]:List B),()),())
else
 bif(a.1.2.1==([]:B)) then
 none
else
(Bx ((a.1.1,a.1.2.1,a.1.2.2.1,a.1.2.2.2.1,()),())).bind fun b=>
(kh 16 (l6 b.1.2.2.2.1 (IntKind.i64.wrap ((b.1.1.length:Int)+(1:Int)))) (l6 b.1.2.2.2.1 (IntKind.i64.wrap ((b.1.1.length:Int)+(1:Int)))) ([]:B)).bind fun c=>
(vz ((b.1.1,b.1.2.1,b.1.2.2.1,(IntKind.i64.wrap ((l6 b.1.2.2.2.1 (IntKind.i64.wrap ((b.1.1.length:Int)+(1:Int))))-(1:Int))),(),(0:Int),()),c,())).bind fun d=>
(bf d.2.1.length d.1.2.2.1).bind fun e=>
((d.2.1[e]?).bind fun q=>some d.1.1).bind fun f=>
(bq (d.2.1.set e f) (0:Int) (IntKind.i64.wrap (d.1.2.2.1+(1:Int)))).bind fun g=>
 some ((g,()),())
noncomputable def L2:aI:=aL af Tryz.f167 i167 Y2 [] f167
theorem z167:aF O 167 L2:=aM Mh Tryz.func167 (by kernel_rfl) (a7 ank (a7 ajc ag)) (fun y=>by kernel_rfl) fun a=>by kernel_rfl
noncomputable abbrev av9:a8:=[(167,L2)]
theorem awQ:aT O (aZ af av9):=aY ⟨z167,⟨⟩⟩
abbrev i116:Shape:=⟨[am 0,am 1],[],8⟩
abbrev ZB:Shape:=⟨[aO 4 .str],[],8⟩
noncomputable def f116(a:i116.J):Option ZB.J:=
(f167 ((a.1.1,a.1.2.1,(0:Int),((-1):Int),()),())).bind fun b=>
 some ((b.1.1,()),())
noncomputable def aaG:aI:=aL af Tryz.f116 i116 ZB [] f116
theorem z116:aF O 116 aaG:=aM awQ Tryz.func116 (by kernel_rfl) ag (fun y=>by kernel_rfl) fun a=>by kernel_rfl
abbrev i251:Shape:=⟨[am 0,am 1],[],18⟩
abbrev Ye:Shape:=⟨[ar 4],[],18⟩
noncomputable def f251(a:i251.J):Option Ye.J:=
 bif(decide ((a.1.1.length:Int)>=(a.1.2.1.length:Int))) then
(bq a.1.1 (0:Int) (a.1.2.1.length:Int)).bind fun b=>
 some (((b==a.1.2.1),()),())
else
 some ((false,()),())
noncomputable def LQ:aI:=aL af Tryz.f251 i251 Ye [] f251
theorem XB:aF O 251 LQ:=aM g0 Tryz.func251 (by kernel_rfl) ag (fun y=>by kernel_rfl) fun a=>by kernel_rfl
noncomputable abbrev ave:a8:=[(251,LQ)]
theorem aww:aT O (aZ af ave):=aY ⟨XB,⟨⟩⟩
abbrev i213:Shape:=⟨[am 0,am 1],[],15⟩
abbrev Yw:Shape:=⟨[am 4,ar 5],[],15⟩
noncomputable def f213(a:i213.J):Option Yw.J:=
(f251 ((a.1.1,a.1.2.1,()),())).bind fun b=>
 bif(!b.1.1) then
 some ((a.1.1,false,()),())
else
(bq a.1.1 (a.1.2.1.length:Int) (a.1.1.length:Int)).bind fun c=>
 some ((c,true,()),())
noncomputable def _O:aI:=aL af Tryz.f213 i213 Yw [] f213
theorem z213:aF O 213 _O:=aM aww Tryz.func213 (by kernel_rfl) ag (fun y=>by kernel_rfl) fun a=>by kernel_rfl
noncomputable abbrev avC:a8:=[(213,_O)]
theorem awE:aT O (aZ af avC):=aY ⟨z213,⟨⟩⟩
abbrev i168:Shape:=⟨[am 0,am 1],[],11⟩
abbrev Y1:Shape:=⟨[am 4,ar 5],[],11⟩
noncomputable def f168(a:i168.J):Option Y1.J:=
(f213 ((a.1.1,a.1.2.1,()),())).bind fun b=>
 some ((b.1.1,b.1.2.1,()),())
noncomputable def aac:aI:=aL af Tryz.f168 i168 Y1 [] f168
theorem z168:aF O 168 aac:=aM awE Tryz.func168 (by kernel_rfl) ag (fun y=>by kernel_rfl) fun a=>by kernel_rfl
noncomputable abbrev avd:a8:=[(251,LQ)]
theorem awv:aT O (aZ af avd):=aY ⟨XB,⟨⟩⟩
abbrev i215:Shape:=⟨[am 0,am 1],[],8⟩
abbrev Yv:Shape:=⟨[ar 4],[],8⟩
noncomputable def f215(a:i215.J):Option Yv.J:=
(f251 ((a.1.1,a.1.2.1,()),())).bind fun b=>
 some ((b.1.1,()),())
noncomputable def _N:aI:=aL af Tryz.f215 i215 Yv [] f215
theorem asI:aF O 215 _N:=aM awv Tryz.func215 (by kernel_rfl) ag (fun y=>by kernel_rfl) fun a=>by kernel_rfl
noncomputable abbrev avc:a8:=[(167,L2)]
theorem awu:aT O (aZ af avc):=aY ⟨z167,⟨⟩⟩
abbrev i216:Shape:=⟨[am 0,am 1,aj 2],[],11⟩
abbrev Yu:Shape:=⟨[aO 6 .str],[],11⟩
noncomputable def f216(a:i216.J):Option Yu.J:=
(f167 ((a.1.1,a.1.2.1,(0:Int),a.1.2.2.1,()),())).bind fun b=>
 some ((b.1.1,()),())
noncomputable def _M:aI:=aL af Tryz.f216 i216 Yu [] f216
theorem asH:aF O 216 _M:=aM awu Tryz.func216 (by kernel_rfl) ag (fun y=>by kernel_rfl) fun a=>by kernel_rfl
def hS(c:UInt8)(s:B):B:=match dC c s with|some (x,_)=>x|none=>s
def hQ(c:UInt8)(s:B):B:=match dC c s with|some (_,y)=>y|none=>[]
theorem RD(c:UInt8)(r:B):f209 ((r,([c],())),())=some ((Lib.indexByte r c,()),()):=by
 have h0:aS ([c]:B) (0:Int)=some c:=rfl;have h1:((([c]:B).length:Int)==0)=false:=rfl;have h2:((([c]:B).length:Int)==1)=true:=rfl;have h3:((c.toNat:Int)).toNat.toUInt8=c:=by simp
 simp only[f209,Bq,f244,h0,h1,h2,h3,bK,ad,ak,Y,Option.bind];by_cases h:(([c]:B)==r)=true
 ·have:r=[c]:=(by simpa using h:[c]=r).symm
  subst this;simp[Lib.indexByte]<;>rfl
 ·simp[h]<;>rfl
theorem nD(c:UInt8)(s:B)(hs:aA s.length):f114 ((s,([c],())),())=some ((hS c s,(hQ c s,((dC c s).isSome,()))),()):=by
 have hi:=RD c s;rw[Ud] at hi;unfold hS hQ;simp only[f114,f166,hi,Y];cases h:dC c s with
 |none=>rfl
 |some q=>
  obtain⟨x,y⟩:=q;obtain⟨h1,_⟩:=iT h;have hl:s.length=x.length+1+y.length:=by rw[h1];simp;omega
  have aa:decide (((x.length:Nat):Int)>=0)=true:=decide_eq_true (by omega)
  have hw:IntKind.i64.wrap (((x.length:Nat):Int)+((([c]:B).length:Nat):Int))=((x.length+1:Nat):Int):=by
   rw[c5 (by simp;omega) (by unfold aA at hs;simp;omega)];simp
  have e1:bq s 0 ((x.length:Nat):Int)=some x:=by rw[gx (by omega),h1];simp
  have e2:bq s ((x.length+1:Nat):Int) ((s.length:Nat):Int)=some y:=by
   rw[fC (by omega)]
   congr 1
   rw[h1,show x++c::y=(x++[c])++y by simp,List.drop_left' (by simp)]
  simp only[aa,ad,e1,hw,e2,Y,Option.isSome_some]
def eo(p s:B):Option B:=bif decide (p.length<=s.length)&&s.take p.length==p then some (s.drop p.length) else none
theorem Pg(s p:B):f251 ((s,(p,())),())=some (((eo p s).isSome,()),()):=by
 have aa:decide (((s.length:Nat):Int)>=((p.length:Nat):Int))=decide (p.length<=s.length):=by congr 1;apply propext;omega
 unfold eo;simp only[f251,aa];cases h:decide (p.length<=s.length) with
 |false=>rfl
 |true=>
  rw[ad,gx (of_decide_eq_true h)];simp only[Y,Bool.true_and];cases (s.take p.length==p)<;>rfl
theorem afF(s p:B):f215 ((s,(p,())),())=some (((eo p s).isSome,()),()):=by
 have:=Pg s p;simp only[f215,this,Y]
theorem Ph(s p:B):f168 ((s,(p,())),())=some (((eo p s).getD s,((eo p s).isSome,())),()):=by
 have h0:=Pg s p;simp only[f168,f213,h0,Y];unfold eo;cases h:decide (p.length<=s.length)&&s.take p.length==p with
 |false=>rfl
 |true=>
  simp only[bz,dW] at h;have e:bq s ((p.length:Nat):Int) ((s.length:Nat):Int)=some (s.drop p.length):=fC h.1;simp only[ad,Option.isSome_some,bu,ak,e,Y,Option.getD_some]
theorem vE(p r:B):eo p (p++r)=some r:=by
 unfold eo;rw[decide_eq_true (by simp)]
 simp
def splitN(c:UInt8):Nat->B->List B
 |0,s=>[s]
 |k+1,s=>match dC c s with
  |some (x,y)=>x::splitN c k y
  |none=>[s]
theorem yY(c:UInt8):∀(k:Nat) (s:B),(bO c s).length<=k+1->splitN c k s=bO c s:=by
 intro k;induction k with
 |zero=>
  intro s h;rw[PW] at h ⊢;cases hc:dC c s with
  |none=>rfl
  |some q=>
   obtain⟨x,y⟩:=q;rw[hc] at h;have:=px c y;cases hy:bO c y with
   |nil=>exact absurd hy this
   |cons z zs=>simp[hy] at h
 |succ k ih=>
  intro s h;rw[PW] at h ⊢;unfold splitN;cases hc:dC c s with
  |none=>rfl
  |some q=>
   obtain⟨x,y⟩:=q;rw[hc] at h;simp only[cY] at h;show x::splitN c k y=x::bO c y;rw[ih y (by omega)]
theorem PT(c:UInt8)(k:Nat)(s:B):1<=(splitN c k s).length:=by
 cases k with
 |zero=>simp[splitN]
 |succ k=>unfold splitN;split<;>simp
theorem yX(c:UInt8):∀(k:Nat) (s:B),s.length<=k->splitN c k s=bO c s:=fun k s h=>yY c k s (by have:=om c s;omega)
theorem G9{aE:Type}:∀(a:List aE) (i:Nat) (x:aE),i<a.length->(a.set i x).take (i+1)=a.take i++[x]:=by
 intro a;induction a with
 |nil=>intro i x h;simp at h
 |cons b a ih=>
  intro i x h;cases i with
  |zero=>rfl
  |succ i=>
   have:=ih i x (by simpa using h)
   simp only[List.set_cons_succ,List.take_succ_cons,List.cons_append,this]
theorem Uh(c:UInt8)(N:Nat)(eJ:aA N):∀(m i:Nat) (s:B) (a:List B),i+m+1=N->a.length=N->aA s.length->s.length+i<=1099511627776->
  ∃(aQ:B) (j:Nat) (c':List B),vz ((s,([c],((0:Int),(((N-1:Nat):Int),((),((i:Int),())))))),(a,()))=some ((aQ,((),((j:Int),()))),(c',()))/\j<N/\c'.length=N/\(c'.set j aQ).take (j+1)=a.take i++splitN c m s:=by
 intro m;induction m with
 |zero=>
  intro i s a hi ha hs _;refine⟨s,i,a,cC ?_,by omega,ha,?_⟩
  ·have:decide ((i:Int)<((N-1:Nat):Int))=false:=decide_eq_false (by omega)
   simp only[zz,this,ak]
  ·rw[G9 a i s (by omega)];rfl
 |succ m ih=>
  intro i s a hi ha hs hb;have hlt:decide ((i:Int)<((N-1:Nat):Int))=true:=decide_eq_true (by omega)
  have hx:=RD c s;have hx:f212 ((s,([c],())),())=some ((Lib.indexByte s c,()),()):=by simp only[f212,hx,Y]
  rw[Ud] at hx;cases hc:dC c s with
  |none=>
   rw[hc] at hx;refine⟨s,i,a,cC ?_,by omega,ha,?_⟩
   ·have:decide ((-1:Int)<0)=true:=rfl;simp only[zz,hlt,ad,hx,Y,this]
   ·rw[G9 a i s (by omega)];simp only[splitN,hc]
  |some q=>
   obtain⟨x,y⟩:=q;rw[hc] at hx;obtain⟨h1,_⟩:=iT hc;have hl:s.length=x.length+1+y.length:=by rw[h1];simp;omega
   obtain⟨aQ,j,c',g1,g2,g3,g4⟩:=ih (i+1) y (a.set i x) (by omega) (by simp[ha]) (by unfold aA at hs ⊢;omega) (by omega)
   refine⟨aQ,j,c',?_,g2,g3,?_⟩
   ·refine(ea ?_).trans g1;have aa:decide (((x.length:Nat):Int)<0)=false:=decide_eq_false (by omega)
    have U:IntKind.i64.wrap (((x.length:Nat):Int)+0)=((x.length:Nat):Int):=by unfold aA at hs;rw[c5 (by omega) (by omega)];omega
    have a':IntKind.i64.wrap (((x.length:Nat):Int)+((([c]:B).length:Nat):Int))=((x.length+1:Nat):Int):=by
     unfold aA at hs;rw[c5 (by simp;omega) (by simp;omega)];simp
    have e1:bq s 0 ((x.length:Nat):Int)=some x:=by rw[gx (by omega),h1];simp
    have e2:bq s ((x.length+1:Nat):Int) ((s.length:Nat):Int)=some y:=by
     rw[fC (by omega)]
     congr 1
     rw[h1,show x++c::y=(x++[c])++y by simp,List.drop_left' (by simp)]
    have bE:bf a.length (i:Int)=some i:=fP (by omega)
    have dN:a[i]? =some (a[i]'(by omega)):=d_ (by omega)
    simp only[zz,hlt,ad,hx,Y,aa,ak,U,e1,bE,dN,a',e2,b9 (i:=i) (by unfold aA;omega)]
   ·rw[g4,G9 a i x (by omega)]
    simp only[splitN,hc,List.append_assoc,List.cons_append,List.nil_append]
theorem agW(c:UInt8):∀s:B,(bO c s).length=Lib.countByte s c+1:=by
 intro s;induction s with
 |nil=>rfl
 |cons b r ih=>
  unfold bO Lib.countByte;rw[List.count_cons];unfold Lib.countByte at ih;cases hb:b==c with
  |true=>simp[ih]
  |false=>
   simp only[ak];have hne:=px c r;cases hy:bO c r with
   |nil=>exact absurd hy hne
   |cons y bm=>rw[hy] at ih;simpa using ih
theorem ahg(c:UInt8)(s:B)(n N:Nat)(hs:s.length<=1000000000)(h1:1<=n)(eJ:min n (s.length+1)=N):
  f167 ((s,([c],((0:Int),((n:Int),())))),())=some ((splitN c (N-1) s,()),()):=by
 have r3:((n:Int)==0)=false:=by rw[beq_eq_false_iff_ne];omega
 have hc0:(([c]:B)==[])=false:=rfl;have hneg:decide ((n:Int)<0)=false:=decide_eq_false (by omega)
 have hw:IntKind.i64.wrap (((s.length:Nat):Int)+1)=((s.length+1:Nat):Int):=by rw[c5 (by omega) (by omega)];omega
 have hm:l6 (n:Int) ((s.length+1:Nat):Int)=(N:Int):=by unfold l6;split<;>omega
 have M6:kh 16 (N:Int) (N:Int) ([]:B)=some (List.replicate N []):=VH (by decide) (by unfold aA;omega)
 have hw1:IntKind.i64.wrap ((N:Int)-1)=((N-1:Nat):Int):=by rw[c5 (by omega) (by omega)];omega
 obtain⟨aQ,j,c',g1,g2,g3,g4⟩:=Uh c N (by unfold aA;omega) (N-1) 0 s (List.replicate N []) (by omega) (by simp) (by unfold aA;omega) (by omega)
 have g1:vz ((s,([c],((0:Int),(((N-1:Nat):Int),((),((0:Int),())))))),(List.replicate N ([]:B),()))=_:=g1;have e1:bf c'.length (j:Int)=some j:=fP (by omega)
 have e2:c'[j]? =some (c'[j]'(by omega)):=d_ (by omega)
 have bE:bq (c'.set j aQ) 0 ((j+1:Nat):Int)=some (splitN c (N-1) s):=by
  rw[gx (by simp;omega),g4];simp
 simp only[f167,r3,hc0,ak,Bx,hneg,Y,hw,hm,M6,hw1,g1,e1,e2,b9 (i:=j) (by unfold aA;omega),bE]
theorem Qs(s:B)(hs:s.length<=1000000000):f216 ((s,([32],((5:Int),()))),())=some ((splitN 32 4 s,()),()):=by
 have h:=ahg 32 s 5 _ hs (by decide) rfl
 have h:f167 ((s,(([32]:B),((0:Int),((5:Int),())))),())=_:=h;simp only[f216,h,Y];congr 3
 by_cases aD:4<=s.length
 ·rw[show min 5 (s.length+1)-1=4 by omega]
 ·rw[yX 32 _ s (by omega),yX 32 4 s (by omega)]
theorem Qt(s:B)(hs:s.length<=1000000000):f116 ((s,([32],())),())=some ((bO 32 s,()),()):=by
 have hcs:=agW 32 s;have hl:=om 32 s;have r3:((-1:Int)==0)=false:=rfl;have hc0:(([32]:B)==[])=false:=rfl;have hneg:decide ((-1:Int)<0)=true:=rfl;have aut:f211 ((s,(([32]:B),())),())=some (((Lib.countByte s 32:Int),()),()):=rfl;have El:IntKind.i64.wrap ((Lib.countByte s 32:Int)+1)=(((bO 32 s).length:Nat):Int):=by rw[c5 (by omega) (by omega)];omega
 have hw:IntKind.i64.wrap (((s.length:Nat):Int)+1)=((s.length+1:Nat):Int):=by rw[c5 (by omega) (by omega)];omega
 generalize eJ:(bO 32 s).length=N at El hcs hl;have hm:l6 (N:Int) ((s.length+1:Nat):Int)=(N:Int):=by unfold l6;split<;>omega
 have M6:kh 16 (N:Int) (N:Int) ([]:B)=some (List.replicate N []):=VH (by decide) (by unfold aA;omega)
 have hw1:IntKind.i64.wrap ((N:Int)-1)=((N-1:Nat):Int):=by rw[c5 (by omega) (by omega)];omega
 obtain⟨aQ,j,c',g1,g2,g3,g4⟩:=Uh 32 N (by unfold aA;omega) (N-1) 0 s (List.replicate N []) (by omega) (by simp) (by unfold aA;omega) (by omega)
 have g1:vz ((s,(([32]:B),((0:Int),(((N-1:Nat):Int),((),((0:Int),())))))),(List.replicate N ([]:B),()))=_:=g1;have e1:bf c'.length (j:Int)=some j:=fP (by omega)
 have e2:c'[j]? =some (c'[j]'(by omega)):=d_ (by omega)
 have bE:bq (c'.set j aQ) 0 ((j+1:Nat):Int)=some (bO 32 s):=by
  rw[gx (by simp;omega),g4,yY 32 (N-1) s (by omega)];simp
 simp only[f116,f167,r3,hc0,ak,Bx,hneg,ad,aut,Y,El,hw,hm,M6,hw1,g1,e1,e2,b9 (i:=j) (by unfold aA;omega),bE]
end Go.Proofs
namespace Go.Proofs
open Go.Shelf Go.RowKit Go.Lib
variable {P:Program}{ρ:Ren}
abbrev qj(s:ByteArray):Prop:=∀(j:Nat) b,s.data.toList[j]? =some b->b.toNat<128
theorem al4{r:Int}(h0:128<=r):2<=(Utf8.encode r).size/\∀j (h:j<(Utf8.encode r).size),0<j->128<=((Utf8.encode r)[j]'h).toNat:=by
 unfold Utf8.encode;generalize hc:(if Utf8.valid r then r.toNat else Utf8.runeError)=c
 have hc1:128<=c:=by
  rw[<-hc];split
  ·omega
  ·decide
 simp only[];have k:∀x:Nat,128<=128+x%64/\128+x%64<256:=fun x=>by omega
 repeat' split
 all_goals first|omega|skip
 ·refine⟨by show 2<=2;decide,fun j h hj=>?_⟩
  have hj2:j<2:=h;have:j=1:=by omega
  subst this;show 128<=(UInt8.ofNat (128+c%64)).toNat;rw[UInt8.toNat_ofNat'];have:=k c;omega
 ·refine⟨by show 2<=3;decide,fun j h hj=>?_⟩
  have hj2:j<3:=h;have:j=1\/j=2:=by omega
  rcases this with rfl|rfl
  ·show 128<=(UInt8.ofNat (128+c/64%64)).toNat;rw[UInt8.toNat_ofNat'];have:=k (c/64);omega
  ·show 128<=(UInt8.ofNat (128+c%64)).toNat;rw[UInt8.toNat_ofNat'];have:=k c;omega
 ·refine⟨by show 2<=4;decide,fun j h hj=>?_⟩
  have hj2:j<4:=h;have:j=1\/j=2\/j=3:=by omega
  rcases this with rfl|rfl|rfl
  ·show 128<=(UInt8.ofNat (128+c/4096%64)).toNat;rw[UInt8.toNat_ofNat'];have:=k (c/4096);omega
  ·show 128<=(UInt8.ofNat (128+c/64%64)).toNat;rw[UInt8.toNat_ofNat'];have:=k (c/64);omega
  ·show 128<=(UInt8.ofNat (128+c%64)).toNat;rw[UInt8.toNat_ofNat'];have:=k c;omega
theorem afa{l:List UInt8}{b:UInt8}(h:∀x,x∈l->x.toNat<128)(hb:128<=b.toNat):Lib.indexByte l b=-1:=by
 induction l with
 |nil=>rfl
 |cons x r ih=>
  have h1:=h x List.mem_cons_self;have h2:=ih fun y hy=>h y (List.mem_cons_of_mem _ hy)
  have h3:(x==b)=false:=by
   rw[beq_eq_false_iff_ne];rintro rfl;omega
  unfold Lib.indexByte;rw[h2,h3];rfl
set_option maxHeartbeats 4000000 in
set_option maxRecDepth 1000000 in
theorem Any.afm(L:Lays.n152 P ρ)(s:ByteArray)(w:World)(ha:qj s):
  Calls P (ρ.f 152) #[.string s,.int .i32 65533] w fun e w'=>e=.returned (.int .i64 (-1))/\∃pos,w'=w.iter s pos:=by
 have HA:Aside (qj s):=ha;clear ha;have t3:=L.t3;have a3:=L.a3;have z3:=L.z3;have v3:=L.v3;have t4:=L.t4;have a4:=L.a4;have z4:=L.z4;have v4:=L.v4;have t5:=L.t5;have a5:=L.a5;have z5:=L.z5;have v5:=L.v5;have t9:=L.t9;have a9:=L.a9;have z9:=L.z9;have v9:=L.v9;have t21:=L.t21;have a21:=L.a21;have z21:=L.z21;have v21:=L.v21;go_enter L.f152,Body.n152_ntmps ρ
 go_wp2
 go_loopg [5,6] s.size (fun g _ _ wx=>∃i:Nat,i+g=s.size/\wx=w.iter s i)
 case atStart=>exact⟨0,by omega,rfl⟩
 case round=>
  obtain⟨i,hig,rfl⟩:=hrel;cases gk with
  |zero=>
   obtain rfl:i=s.size:=by omega
   have hnx:=run_next_end (P:=P) w s s.size
   go_wp2
   go_ret
   exact⟨rfl,_,rfl⟩
  |succ g=>
   have hi:i<s.size:=by omega
   obtain⟨x,hx⟩:∃x:UInt8,s[i]'hi=x:=⟨_,rfl⟩;have hxl:s.data.toList[i]? =some x:=by rw[<-hx];exact Lib.data_getElem? s i hi
   have hx128:x.toNat<128:=HA.out i x hxl;have hnx:=fun ty=>run_next_ascii (P:=P) w s i ty hi (by rw[hx];exact hx128)
   rw[hx] at hnx;clear hxl hx;have hne:((x.toNat:Int)==65533)=false:=by rw[beq_eq_false_iff_ne];omega
   go_wp2
   go_roundg g
   case measure=>omega
   case rel=>exact⟨i+1,by omega,rfl⟩
set_option maxHeartbeats 8000000 in
set_option maxRecDepth 1000000 in
theorem Any.ae9(L:Lays.n152 P ρ)(s:ByteArray)(r:Int)(w:World)(h0:128<=r)(h1:r<=2147483647)(hne:r≠65533)(hs:s.size<=1000000)(ha:qj s):
  Calls P (ρ.f 152) #[.string s,.int .i32 r] w fun e w'=>e=.returned (.int .i64 (-1))/\Below w.heap.size w w':=by
 have HA:Aside (qj s):=ha;clear ha;have t3:=L.t3;have a3:=L.a3;have z3:=L.z3;have v3:=L.v3;have t4:=L.t4;have a4:=L.a4;have z4:=L.z4;have v4:=L.v4;have t5:=L.t5;have a5:=L.a5;have z5:=L.z5;have v5:=L.v5;have t9:=L.t9;have a9:=L.a9;have z9:=L.z9;have v9:=L.v9;have t21:=L.t21;have a21:=L.a21;have z21:=L.z21;have v21:=L.v21;have e119:∀args w,(callFunc (ρ.f 119) args).run P w=.ok (.enter (ρ.f 119) args) w:=enters_of L.f119 (by kernel_rfl) rfl
 have e137:∀args w,(callFunc (ρ.f 137) args).run P w=.ok (.enter (ρ.f 137) args) w:=enters_of L.f137 (by kernel_rfl) rfl
 have b1:¬(r<128):=by omega
 have b2:(0:Int)<=r:=by omega
 have b3:(r==65533)=false:=by rw[beq_eq_false_iff_ne];exact hne
 obtain⟨hE,hB⟩:=al4 h0;cases hv:Lib.validRune r with
 |false=>
  go_enter L.f152,Body.n152_ntmps ρ
  go_wp2_with (go_at_fn (ρ.f 119);refine(Any.utf8_ValidRune {L with} _ _).mono ?_;rintro e w' ⟨rfl,hw⟩;rw[hw,hv])
  go_ret
  exact⟨rfl,Below.refl _ _⟩
 |true=>
  have mixed:=L.mixed;have s21:(P.underlying (ρ.t 21)).isSome=true:=by rw[L.t21];rfl
  have hcv:=fun w=>run_convert_int_string (P:=P) w (ρ.t 21) (ρ.t 9) .i32 r s21 L.t9
  have hRs:(Utf8.encode r).size<=4:=encode_size_le r;generalize hR:Utf8.encode r=R at hE hB hcv hRs;clear hR;obtain⟨n,hn⟩:∃n:Nat,R.size=n+1:=⟨R.size-1,by omega⟩
  have hidx:(R.size:Int)-1=(n:Int):=by omega
  go_enter L.f152,Body.n152_ntmps ρ
  go_wp2_with (go_at_fn (ρ.f 119);refine(Any.utf8_ValidRune {L with} _ _).mono ?_;rintro e w' ⟨rfl,hw⟩;rw[hw,hv])
  go_step3
  go_wp2
  refine wp_loop_rounds 1 ?_
  rw[rounds_succ]
  go_wp2
  ·have hlt:(n:Int)<(s.size:Int):=by omega
   have hns:n<s.size:=by omega
   have hnR:n<R.size:=by omega
   have hx:=HA.out n _ (Lib.data_getElem? s n hns);have hy:=hB n hnR (by omega)
   obtain⟨x,hxe⟩:∃x:UInt8,s[n]'hns=x:=⟨_,rfl⟩;obtain⟨y,hye⟩:∃y:UInt8,R[n]'hnR=y:=⟨_,rfl⟩;rw[hxe] at hx;rw[hye] at hy;have g1:=fun w=>run_index_string (P:=P) w (ρ.t 9) s .i64 (n:Int) L.t9
   have g2:=fun w=>run_index_string (P:=P) w (ρ.t 9) R .i64 (n:Int) L.t9
   simp only[show(0:Int)<=(n:Int)/\(n:Int)<(s.size:Int) from⟨by omega,hlt⟩,dif_pos,Int.toNat_natCast,hxe] at g1
   simp only[show(0:Int)<=(n:Int)/\(n:Int)<(R.size:Int) from⟨by omega,by omega⟩,dif_pos,Int.toNat_natCast,hye] at g2
   go_step3
   go_wp2
   go_region_o
   have hxy:((x.toNat:Int)==(y.toNat:Int))=false:=by rw[beq_eq_false_iff_ne];omega
   have hxy':¬x.toNat=y.toNat:=by omega
   go_wp2
   have hsm:indexByte (List.take (s.size-(n+1)) (List.drop (n+1) s.data.toList)) y=-1:=by
    refine afa (fun z hz=>?_) hy
    obtain⟨k,hk⟩:=List.getElem?_of_mem (List.mem_of_mem_drop (List.mem_of_mem_take hz));exact HA.out k z hk
   have hb1:(n:Int)+1<=(s.size:Int):=by omega
   have hb0:(0:Int)<=(n:Int)+1:=by omega
   have hb2:¬((s.size:Int)<(n:Int)+1):=by omega
   have hbn:n+1<=s.size:=by omega
   have hsl1:∀w,(Instr.slice (ρ.t 9) (.string s) (some (.int .i64 ((n:Int)+1))) none none).run P w=.ok (.string (s.extract (n+1) s.size)) w:=fun w=>by
    rw[run_slice_string_from_if w (ρ.t 9) s .i64 _ L.t9,if_pos ⟨by omega,by omega⟩]
    rfl
   have hw1:IntKind.i64.wrap ((n:Int)+1)=(n:Int)+1:=by rw[IntKind.wrap_i64];omega
   have hsl2:∀w,(Instr.slice (ρ.t 9) (.string s) (some (.int .i64 (IntKind.i64.wrap ((n:Int)+1)))) none none).run P w=.ok (.string (s.extract (n+1) s.size)) w:=fun w=>by rw[hw1];exact hsl1 w
   go_region_with_o (go_at_fn (ρ.f 137);refine(Any.strings_IndexByte {L with} _ _ _).mono ?_;rintro e w' ⟨rfl,hw⟩;rw[hw])
   go_wp2
   rw[Exit.noGoto_ret];simp only[Exit.inBlock,Exit.then]
   rw[Exit.noGoto_ret];simp only[Exit.inBlock,Exit.then]
   go_ret
   exact⟨rfl,(Below.refl _ _).drew.drew⟩
  ·rw[Exit.noGoto_ret];go_ret
   exact⟨rfl,Below.refl _ _⟩
theorem agV(s:ByteArray)(pos:Nat)(h:pos<s.size)(ha:128<=(s[pos]'h).toNat):∀j,j<(Utf8.decode s pos).2->pos+j<s.size/\∀b,s.data.toList[pos+j]? =some b->128<=b.toNat:=by
 have g:∀k (hk:pos+k<s.size) b,s.data.toList[pos+k]? =some b->s.get! (pos+k)=b:=fun k hk b hb=>by
  have e:=Lib.data_getElem? s (pos+k) hk;rw[hb] at e;have:=get_at s (pos+k) hk;rw[Nat.add_zero] at this;rw[this];exact(Option.some.inj e).symm
 have z:∀b,s.data.toList[pos+0]? =some b->128<=b.toNat:=fun b hb=>by
  have e:=Lib.data_getElem? s pos h;rw[Nat.add_zero,e] at hb;rw[<-Option.some.inj hb];exact ha
 have c:∀k,(decide (pos+k<s.size)&&(s.get! (pos+k)).toNat/64==2)=true->pos+k<s.size/\∀b,s.data.toList[pos+k]? =some b->128<=b.toNat:=fun k hk=>by
  simp only[Bool.and_eq_true,decide_eq_true_eq,beq_iff_eq] at hk;refine⟨hk.1,fun b hb=>?_⟩
  have:=g k hk.1 b hb;rw[this] at hk;omega
 have one:∀j,j<1->pos+j<s.size/\∀b,s.data.toList[pos+j]? =some b->128<=b.toNat:=fun j hj=>by
  obtain rfl:j=0:=by omega
  exact⟨h,z⟩
 have hn:¬(s[pos]'h).toNat<128:=by omega
 simp only[Utf8.decode,get_at s pos h,hn,if_false];split
 ·rename_i h2;simp only[Bool.and_eq_true] at h2;have c1:=c 1 (by simpa using h2.2)
  split
  ·intro j hj;have:j=0\/j=1:=by simp only at hj;omega
   rcases this with rfl|rfl
   ·exact⟨h,z⟩
   ·exact c1
  ·exact one
 ·split
  ·rename_i h2;simp only[Bool.and_eq_true] at h2;have c1:=c 1 (by simpa using h2.1.2)
   have c2:=c 2 (by simpa using h2.2)
   split
   ·intro j hj;have:j=0\/j=1\/j=2:=by simp only at hj;omega
    rcases this with rfl|rfl|rfl
    ·exact⟨h,z⟩
    ·exact c1
    ·exact c2
   ·exact one
  ·split
   ·rename_i h2;simp only[Bool.and_eq_true] at h2;have c1:=c 1 (by simpa using h2.1.1.2)
    have c2:=c 2 (by simpa using h2.1.2)
    have c3:=c 3 (by simpa using h2.2)
    split
    ·intro j hj;have:j=0\/j=1\/j=2\/j=3:=by simp only at hj;omega
     rcases this with rfl|rfl|rfl|rfl
     ·exact⟨h,z⟩
     ·exact c1
     ·exact c2
     ·exact c3
    ·exact one
   ·exact one
theorem Any.afZ(L:Lays.n152 P ρ)(s:ByteArray)(r:Int)(w:World)(h0:128<=r)(h1:r<=2147483647)(hs:s.size<=1000000)(ha:qj s):
  Calls P (ρ.f 152) #[.string s,.int .i32 r] w fun e w'=>e=.returned (.int .i64 (-1))/\Below w.heap.size w w':=by
 by_cases hne:r=65533
 ·subst hne;exact(Any.afm L s w ha).mono fun e w' ⟨h,pos,h2⟩=>⟨h,h2▸(Below.refl _ _).alloc (Nat.le_refl _) _⟩
 ·exact Any.ae9 L s r w h0 h1 hne hs ha
set_option maxHeartbeats 8000000 in
set_option maxRecDepth 1000000 in
theorem Any.aeZ(L:Lays.n153 P ρ)(s chars:ByteArray)(w:World)(h2:2<=chars.size)(h8:s.size<=8)(hcs:chars.size<=1000000)(hac:qj chars):
  Calls P (ρ.f 153) #[.string s,.string chars] w fun e w'=>e=.returned (.int .i64 (Lib.indexAny s.data.toList chars.data.toList))/\Below w.heap.size w w':=by
 have HA:Aside (qj chars):=hac;clear hac;have hemp:chars.toList.isEmpty=false:=by
  rw[Lib.toList_data];cases h:chars.data.toList with
  |nil=>have:=Lib.size_eq chars;rw[h,List.length_nil] at this;omega
  |cons _ _=>rfl
 have hn1:((chars.size:Int)==1)=false:=beq_eq_false_iff_ne.2 (by omega)
 have h8z:decide ((8:Int)<(s.size:Int))=false:=decide_eq_false (by omega)
 have t3:=L.t3;have a3:=L.a3;have z3:=L.z3;have v3:=L.v3;have t4:=L.t4;have a4:=L.a4;have z4:=L.z4;have v4:=L.v4;have t5:=L.t5;have a5:=L.a5;have z5:=L.z5;have v5:=L.v5;have t9:=L.t9;have a9:=L.a9;have z9:=L.z9;have v9:=L.v9;have t21:=L.t21;have a21:=L.a21;have z21:=L.z21;have v21:=L.v21;have e152:∀args w,(callFunc (ρ.f 152) args).run P w=.ok (.enter (ρ.f 152) args) w:=enters_of L.f152 (by kernel_rfl) rfl
 have e226:∀args w,(callFunc (ρ.f 226) args).run P w=.ok (.enter (ρ.f 226) args) w:=enters_of L.f226 (by kernel_rfl) rfl
 go_enter L.f153,Body.n153_ntmps ρ
 go_wp2_with (go_at_fn (ρ.f 226);refine(Any.strings_shouldUseASCIISet {L with} _ _).mono ?_;rintro e w' ⟨rfl,hw⟩;rw[hw,h8z])
 go_loopg [9,10] s.size (fun g _ _ wx=>∃i:Nat,i<=s.size/\s.size-i<=g/\wx.heap[w.heap.size]? =some (.stringIter s i)/\Aside (Below w.heap.size w wx)/\Aside (Lib.NoAny s.data.toList chars.data.toList i))
 case atStart=>exact⟨0,by omega,by omega,World.iter_heap _ _ _,(Below.refl _ _).alloc (Nat.le_refl _) _,Lib.NoAny.zero _ _⟩
 case round=>
  obtain⟨i,hi,hg,hk,qI,HN⟩:=hrel;by_cases hlt:i<s.size
  ·obtain⟨x,hx⟩:∃x:UInt8,s[i]'hlt=x:=⟨_,rfl⟩;have hxl:s.data.toList[i]? =some x:=by rw[<-hx];exact Lib.data_getElem? s i hlt
   have Hx:Aside (s.data.toList[i]? =some x):=hxl;have hkl:=(Array.getElem?_eq_some_iff.1 hk).1;by_cases hx128:x.toNat<128
   ·have hnx:=fun ty=>run_next_ascii_at (P:=P) _ w.heap.size s i ty hk hlt (by rw[hx];exact hx128)
    rw[hx] at hnx;have hio:=iterAt_heap _ w.heap.size s i (i+1) hk;have hbo:Aside (Below w.heap.size w _):=below_iterAt qI.out (Nat.le_refl _) s (i+1);clear hxl hx;have hcon:=Lib.contains_iff_indexByte chars.data.toList x;have hback:((x.toNat:Int)).toNat.toUInt8=x:=by simp
    cases hin:chars.data.toList.contains x
    ·rw[hin] at hcon;have hlt2:¬((0:Int)<=Lib.indexByte chars.data.toList x):=of_decide_eq_false hcon.symm;clear hcon
     go_wp2_with (go_at_fn (ρ.f 152);refine(Any.strings_IndexRune_ascii {L with} _ _ _ (by omega) (by omega)).mono ?_;rintro e w' ⟨rfl,hw⟩;rw[hw,hback])
     go_roundg (s.size-(i+1))
     case measure=>omega
     case rel=>exact⟨i+1,by omega,by omega,hio,hbo,HN.out.succ Hx.out hin⟩
    ·rw[hin] at hcon;have hge:(0:Int)<=Lib.indexByte chars.data.toList x:=of_decide_eq_true hcon.symm;clear hcon
     go_wp2_with (go_at_fn (ρ.f 152);refine(Any.strings_IndexRune_ascii {L with} _ _ _ (by omega) (by omega)).mono ?_;rintro e w' ⟨rfl,hw⟩;rw[hw,hback])
     go_ret
     exact⟨by rw[Lib.indexAny_hit HN.out Hx.out hin];rfl,hbo.out⟩
   ·have hhi:128<=(s[i]'hlt).toNat:=by rw[hx];omega
    have hnx:=fun ty=>run_next_any_at (P:=P) _ w.heap.size s i ty hk hlt
    have hd1:=decode_high s i hlt hhi;have hd2:=decode_le s i;have hsk:Aside (∀j,j<(Utf8.decode s i).2->i+j<s.size/\∀b,s.data.toList[i+j]? =some b->128<=b.toNat):=agV s i hlt hhi;generalize(Utf8.decode s i).1=c at hnx hd1 hd2;generalize(Utf8.decode s i).2=d at hnx hd1 hsk;have hle:i+d<=s.size:=by
     have:=(hsk.out (d-1) (by omega)).1
     omega
    have hio:=iterAt_heap _ w.heap.size s i (i+d) hk;have hbo:Aside (Below w.heap.size w _):=below_iterAt qI.out (Nat.le_refl _) s (i+d);have hno:Aside (Lib.NoAny s.data.toList chars.data.toList (i+d)):=fun j b hj hb=>by
     by_cases hji:j<i
     ·exact HN.out j b hji hb
     ·have h3:=(hsk.out (j-i) (by omega)).2 b (by rw[show i+(j-i)=j by omega];exact hb)
      cases hc:chars.data.toList.contains b with
      |false=>rfl
      |true=>
       have hm:b∈chars.data.toList:=by simpa using hc
       obtain⟨k,hk2⟩:=List.getElem?_of_mem hm;have:=HA.out k b hk2;omega
    have hneg:¬((0:Int)<=-1):=by decide
    have hc0:(128:Int)<=(c:Int):=by omega
    have hc1:((c:Nat):Int)<=2147483647:=by omega
    clear hxl hx
    go_wp2_with (go_at_fn (ρ.f 152);refine(Any.afZ {L with} _ _ _ hc0 hc1 hcs HA.out).mono ?_;rintro e w' ⟨rfl,hbw⟩)
    go_roundg (s.size-(i+d))
    case measure=>omega
    case rel=>exact⟨i+d,hle,by omega,(hbw.block _ (by simpa[iterAt_size] using hkl)).trans hio,hbo.out.trans (hbw.mono (by rw[iterAt_size];omega)),hno.out⟩
  ·obtain rfl:i=s.size:=by omega
   have hnx:=fun ty=>run_next_end_at (P:=P) _ w.heap.size s s.size ty hk (by omega)
   go_wp2
   go_ret
   exact⟨by rw[Lib.indexAny_none (by rw[<-Lib.size_eq];exact HN.out)];rfl,qI.out⟩
theorem Any.af1(L:Lays.n153 P ρ)(h116:(P.info? (ρ.t 116)).map (fun i=>(i.zero,i.size))=some (some (.agg (Array.replicate 256 (.bool false))),256))(s chars:ByteArray)(w:World)(hs:s.size<4294967281)(h2:2<=chars.size)(hcs:chars.size<=1000000)(hac:qj chars):
  Calls P (ρ.f 153) #[.string s,.string chars] w fun e w'=>e=.returned (.int .i64 (Lib.indexAny s.data.toList chars.data.toList))/\Below w.heap.size w w':=by
 by_cases h8:s.size<=8
 ·exact Any.aeZ L s chars w h2 h8 hcs hac
 ·refine(Any.strings_IndexAny_long L (zero_of_info h116).1 (zero_of_info h116).2 s chars w h2 (by omega) hs (by omega) hac).mono fun e w' ⟨h1,h2⟩=>⟨h1,?_⟩
  rw[h2];exact((Below.refl _ _).alloc (Nat.le_refl _) _).alloc (by simp) _
end Go.Proofs
namespace Go.Proofs
open Go.Jk
noncomputable def Xu:aI:=FL
theorem aq3:aF O 214 Xu:=ajM (fun _ _=>enters_of Tryz.func214 (by kernel_rfl) rfl _ _) fun s p w h1 h2 h3 aD=>Any.af1 Tryz.anX (by kernel_rfl) s p w h1 h2 h3 aD
noncomputable abbrev avB:a8:=[(102,xr),(214,Xu),(215,_N)]
theorem aaY:aT O (aZ af avB):=aY ⟨Do,aq3,asI,⟨⟩⟩
abbrev TC:Shape:=⟨[am 0,ax 2 2 0,ax 4 4 0],[aw 2 [ah,ba,ah],aw 4 [ah,ba,ah]],49⟩
abbrev Tg:List aR:=[(.norm,⟨[ax 2 2 0,ax 4 4 0],[aw 2 [ah,ba,ah],aw 4 [ah,ba,ah]],49⟩),(.ret,⟨[ax 2 2 0,ar 3],[aw 2 [ah,ba,ah]],49⟩)]
noncomputable def ny(y:TC.J):Option (aH Tg):=
(rB y.1.1 ([61,60,62]:B)).bind fun a=>
 bif(decide ((Lib.indexAny y.1.1 ([61,60,62]:B))>=(0:Int))) then
(bq y.1.1 (0:Int) (Lib.indexAny y.1.1 ([61,60,62]:B))).bind fun b=>
(bq y.1.1 (Lib.indexAny y.1.1 ([61,60,62]:B)) (y.1.1.length:Int)).bind fun c=>
(f215 ((c,([62,61]:B),()),())).bind fun d=>
 bif d.1.1 then
(bq c (2:Int) (c.length:Int)).bind fun e=>
 some (.inl (((),(),()),(y.2.1.1,y.2.1.2.1,y.2.1.2.2.1,()),(b,(2:Int),e,()),()))
else
(aS c (0:Int)).bind fun f=>
 bif((f.toNat:Int)==(61:Int)) then
(bq c (1:Int) (c.length:Int)).bind fun g=>
 some (.inl (((),(),()),(y.2.1.1,y.2.1.2.1,y.2.1.2.2.1,()),(b,(1:Int),g,()),()))
else
(aS c (0:Int)).bind fun h=>
 bif((h.toNat:Int)==(60:Int)) then
(bq c (1:Int) (c.length:Int)).bind fun i=>
 some (.inl (((),(),()),(y.2.1.1,y.2.1.2.1,y.2.1.2.2.1,()),(b,(3:Int),i,()),()))
else
 some (.inr (((),false,()),(([]:B),(0:Int),([]:B),()),()))
else
 some (.inl (((),(),()),(y.2.1.1,y.2.1.2.1,y.2.1.2.2.1,()),(y.2.2.1.1,y.2.2.1.2.1,y.2.2.1.2.2.1,()),()))
theorem anj:aV O (ap (codeOf Tryz.f169) 1 14) (aX TC Tg ny):=cn aaY (by kernel_rfl) ag fun y=>by kernel_rfl
abbrev i169:Shape:=⟨[am 0],[],49⟩
abbrev Y0:Shape:=⟨[ax 2 2 0,ar 3],[aw 2 [ah,ba,ah]],49⟩
noncomputable def f169(a:i169.J):Option Y0.J:=
(ny ((a.1.1,(),(),()),(([]:B),(0:Int),([]:B),()),(a.1.1,(0:Int),([]:B),()),())).bind fun b=>
(match b with
|.inl c=>
(f102 (((c.2.2.1.1,c.2.2.1.2.1,c.2.2.1.2.2.1,()),()),())).bind fun d=>
 bif(!d.1.1) then
 some (((),false,()),(([]:B),(0:Int),([]:B),()),())
else
 some (((),true,()),(c.2.2.1.1,c.2.2.1.2.1,c.2.2.1.2.2.1,()),())
|.inr e=>
 some (((),e.1.2.1,()),(e.2.1.1,e.2.1.2.1,e.2.1.2.2.1,()),()))
noncomputable def aab:aI:=aL af Tryz.f169 i169 Y0 [] f169
theorem as1:aF O 169 aab:=aM aaY Tryz.func169 (by kernel_rfl) (a7 anj ag) (fun y=>by kernel_rfl) fun a=>by kernel_rfl
def fg:B:=[61,60,62]
theorem RA:∀s:B,((∀y,y∈s->fg.contains y=false)/\Lib.indexAny s fg=-1)\/∃a x r,s=a++x::r/\fg.contains x=true/\(∀y,y∈a->fg.contains y=false)/\Lib.indexAny s fg=(a.length:Int):=by
 intro s;induction s with
 |nil=>exact .inl ⟨fun y h=>(by cases h),rfl⟩
 |cons b l ih=>
  unfold Lib.indexAny;cases hb:fg.contains b with
  |true=>exact .inr ⟨[],b,l,rfl,hb,fun y h=>(by cases h),rfl⟩
  |false=>
   rcases ih with⟨h1,h2⟩|⟨a,x,r,h1,h2,h3,aD⟩
   ·refine .inl ⟨fun y hy=>?_,?_⟩
    ·rcases bR.1 hy with rfl|hy
     ·exact hb
     ·exact h1 y hy
    ·rw[h2];simp
   ·refine .inr ⟨b::a,x,r,by rw[h1];rfl,h2,fun y hy=>?_,?_⟩
    ·rcases bR.1 hy with rfl|hy
     ·exact hb
     ·exact h3 y hy
    ·rw[aD];have:((a.length:Int)==-1)=false:=by rw[beq_eq_false_iff_ne];omega
     simp[this]
theorem aox{a r:B}{x:UInt8}(ha:∀y,y∈a->fg.contains y=false)(hx:fg.contains x=true):Lib.indexAny (a++x::r) fg=(a.length:Int):=by
 induction a with
 |nil=>show Lib.indexAny (x::r) fg=_;unfold Lib.indexAny;rw[hx];rfl
 |cons b a ih=>
  show Lib.indexAny (b::(a++x::r)) fg=_;unfold Lib.indexAny;have hb:=ha b cj;rw[hb,ih fun y hy=>ha y (ci _ hy)]
  have:((a.length:Int)==-1)=false:=by rw[beq_eq_false_iff_ne];omega
  simp[this]
theorem aqi{s:B}(h:∀y,y∈s->fg.contains y=false):Lib.indexAny s fg=-1:=by
 rcases RA s with⟨_,h2⟩|⟨a,x,r,h1,h2,_,_⟩
 ·exact h2
 ·have:=h x (by rw[h1];simp)
  rw[h2] at this;cases this
theorem amj{s:B}(h:s.length<=1000000):rB s ([61,60,62]:B)=some ():=by
 unfold rB;exact if_pos ⟨by omega,by decide,by decide,by decide⟩
def pX(a t:B):Option bD:=match t with
 |62::61::r=>some ⟨a,2,r⟩
 |61::r=>some ⟨a,1,r⟩
 |60::r=>some ⟨a,3,r⟩
 |_=>none
def k1(s:B):Option bD:=match Lib.indexAny s fg with
 |.ofNat k=>pX (s.take k) (s.drop k)
 |_=>some ⟨s,0,[]⟩
def e6(s:B):Option bD:=match k1 s with
 |some n=>bif dR n then some n else none
 |none=>none
def iO:bD:=⟨[],0,[]⟩
theorem Qv(s:B)(hs:s.length<=1000000):f169 ((s,()),())=some (((),((e6 s).isSome,())),((((e6 s).getD iO).name,(((e6 s).getD iO).kind,(((e6 s).getD iO).a6,()))),())):=by
 have hk:∀n:bD,n.name.length<=1000000->n.a6.length<=1000000->f102 (((n.name,(n.kind,(n.a6,()))),()),())=some ((dR n,()),()):=fun n h1 h2=>
  zc (((n.name,(n.kind,(n.a6,()))),()),()) (by show n.name.length<=2097152;omega) (by show n.a6.length<=2097152;omega)
 have fin:∀n:bD,n.name.length<=1000000->n.a6.length<=1000000->k1 s=some n->
   ny ((s,((),((),()))),((([]:B),((0:Int),(([]:B),()))),((s,((0:Int),(([]:B),()))),())))=some (.inl (((),((),())),((([]:B),((0:Int),(([]:B),()))),((n.name,(n.kind,(n.a6,()))),()))))->
   f169 ((s,()),())=some (((),((e6 s).isSome,())),((((e6 s).getD iO).name,(((e6 s).getD iO).kind,(((e6 s).getD iO).a6,()))),())):=by
  intro n h1 h2 hr hg;have uR:=hk n h1 h2;have hG:e6 s=bif dR n then some n else none:=by unfold e6;rw[hr]
  simp only[f169,hg,Y,uR,hG];cases dR n<;>rfl
 have er:rB s ([61,60,62]:B)=some ():=amj hs;rcases RA s with⟨_,h2⟩|⟨a,x,r,h1,h2,h3,aD⟩
 ·refine fin ⟨s,0,[]⟩ hs (by simp) (by unfold k1;rw[h2];rfl) ?_
  have h2:Lib.indexAny s ([61,60,62]:B)=-1:=h2;have aa:decide ((-1:Int)>=0)=false:=rfl;simp only[ny,er,Y,h2,aa,ak]
 ·have o':Lib.indexAny s ([61,60,62]:B)=(a.length:Int):=aD;have aa:decide ((a.length:Int)>=0)=true:=decide_eq_true (by omega)
  have hl:s.length=a.length+(x::r).length:=by rw[h1];simp
  have e1:bq s 0 ((a.length:Nat):Int)=some a:=by rw[gx (by omega),h1];simp
  have e2:bq s ((a.length:Nat):Int) ((s.length:Nat):Int)=some (x::r):=by rw[fC (by omega),h1];simp
  have hp:=afF (x::r) [62,61];have oY:aS (x::r) (0:Int)=some x:=rfl;have ek:k1 s=pX a (x::r):=by
   unfold k1;rw[aD];have d1:s.drop a.length=x::r:=by rw[h1];simp
   have d2:s.take a.length=a:=by rw[h1];simp
   show pX (s.take a.length) (s.drop a.length)=_;rw[d1,d2]
  have no:k1 s=none->ny ((s,((),((),()))),((([]:B),((0:Int),(([]:B),()))),((s,((0:Int),(([]:B),()))),())))=some (.inr (((),(false,())),((([]:B),((0:Int),(([]:B),()))),())))->
    f169 ((s,()),())=some (((),((e6 s).isSome,())),((((e6 s).getD iO).name,(((e6 s).getD iO).kind,(((e6 s).getD iO).a6,()))),())):=by
   intro hr hg;simp only[f169,hg,Y];unfold e6;rw[hr];rfl
  have hx:x=61\/x=60\/x=62:=by simpa[fg] using h2
  have uX:a.length<=1000000:=by omega
  have mY:r.length<=1000000:=by simp at hl;omega
  rcases hx with rfl|rfl|rfl
  ·have hn:eo [62,61] (61::r)=none:=by unfold eo;cases r<;>simp
   rw[hn] at hp;refine fin ⟨a,1,r⟩ uX mY ek ?_
   have bE:bq (61::r) 1 (((61::r).length:Nat):Int)=some r:=fC (xs:=61::r) (a:=1) (by simp)
   have t1:((((61:UInt8).toNat:Nat):Int)==61)=true:=rfl;simp only[ny,er,Y,o',aa,ad,e1,e2,hp,Option.isSome_none,ak,oY,t1,bE]
  ·have hn:eo [62,61] (60::r)=none:=by unfold eo;cases r<;>simp
   rw[hn] at hp;refine fin ⟨a,3,r⟩ uX mY ek ?_
   have bE:bq (60::r) 1 (((60::r).length:Nat):Int)=some r:=fC (xs:=60::r) (a:=1) (by simp)
   have t1:((((60:UInt8).toNat:Nat):Int)==61)=false:=rfl;have t2:((((60:UInt8).toNat:Nat):Int)==60)=true:=rfl;simp only[ny,er,Y,o',aa,ad,e1,e2,hp,Option.isSome_none,ak,oY,t1,t2,bE]
  ·have t1:((((62:UInt8).toNat:Nat):Int)==61)=false:=rfl;have t2:((((62:UInt8).toNat:Nat):Int)==60)=false:=rfl;cases r with
   |nil=>
    have hn:eo [62,61] ([62]:B)=none:=by decide
    rw[hn] at hp;refine no ek ?_
    simp only[ny,er,Y,o',aa,ad,e1,e2,hp,Option.isSome_none,ak,oY,t1,t2]
   |cons b r=>
    by_cases hb:b=61
    ·subst hb;have hn:eo [62,61] (62::61::r)=some r:=vE [62,61] r;rw[hn] at hp;refine fin ⟨a,2,r⟩ uX (by simp at mY;show r.length<=1000000;omega) ek ?_
     have bE:bq (62::61::r) 2 (((62::61::r).length:Nat):Int)=some r:=fC (xs:=62::61::r) (a:=2) (by simp)
     simp only[ny,er,Y,o',aa,ad,e1,e2,hp,Option.isSome_some,bE]
    ·have hn:eo [62,61] (62::b::r)=none:=by
      have hb2:(b==61)=false:=by simpa using hb
      unfold eo;simp[hb2]
     rw[hn] at hp;refine no (ek.trans ?_) ?_
     ·unfold pX;split
      ·rename_i h;simp at h;exact absurd h.1 hb
      ·rename_i h;simp at h
      ·rename_i h;simp at h
      ·rfl
     ·simp only[ny,er,Y,o',aa,ad,e1,e2,hp,Option.isSome_none,ak,oY,t1,t2]
theorem R'{s:B}(h:∀x,x∈s->(97<=x.toNat/\x.toNat<=122)\/(48<=x.toNat/\x.toNat<=57)):∀y,y∈s->fg.contains y=false:=by
 intro y hy;have:=h y hy;cases hc:fg.contains y with
 |false=>rfl
 |true=>
  have hx:y=61\/y=60\/y=62:=by simpa[fg] using hc
  rcases hx with rfl|rfl|rfl<;>simp at this
theorem aiW{n:bD}(h:dR n=true):k1 (cZ n)=some n:=by
 obtain⟨h1,h2⟩:=yP h;have hno:=R' (Fl h1);obtain⟨bX,k,v⟩:=n;have key:∀(x:UInt8) (t:B),fg.contains x=true->k1 (bX++x::t)=pX bX (x::t):=by
  intro x t hx;unfold k1;rw[aox hno hx];have d1:(bX++x::t).drop bX.length=x::t:=by simp
  have d2:(bX++x::t).take bX.length=bX:=by simp
  show pX ((bX++x::t).take bX.length) ((bX++x::t).drop bX.length)=_;rw[d1,d2]
 rcases h2 with⟨hk,hv⟩|⟨hk,hv⟩
 ·have hk:k=0:=hk;have hv:v=[]:=hv;subst hk hv;have e:cZ ⟨bX,0,[]⟩=bX:=by unfold cZ eb;simp
  rw[e];unfold k1;rw[aqi hno];rfl
 ·rcases hk with hk|hk|hk
  ·have hk:k=1:=hk;subst hk;have e:cZ ⟨bX,1,v⟩=bX++61::v:=by unfold cZ eb;simp
   rw[e,key 61 v (by decide)];rfl
  ·have hk:k=2:=hk;subst hk;have e:cZ ⟨bX,2,v⟩=bX++62::61::v:=by unfold cZ eb;simp
   rw[e,key 62 (61::v) (by decide)];rfl
  ·have hk:k=3:=hk;subst hk;have e:cZ ⟨bX,3,v⟩=bX++60::v:=by unfold cZ eb;simp
   rw[e,key 60 v (by decide)];rfl
theorem alS{n:bD}(h:dR n=true):e6 (cZ n)=some n:=by
 unfold e6;rw[aiW h];simp[h]
noncomputable abbrev avA:a8:=[(114,xp),(115,DN),(216,_M)]
theorem DU:aT O (aZ af avA):=aY ⟨Dn,KZ,asH,⟨⟩⟩
abbrev TB:Shape:=⟨[ax 2 2 0,am 3,ar 4,am 6,ar 7,aO 8 .str],[aw 2 [ah,ba,ba,ah]],110⟩
abbrev Tf:List aR:=[(.norm,⟨[ax 2 2 0,am 3,ar 4,am 6,aO 8 .str,ar 26],[aw 2 [ah,ba,ba,ah]],110⟩)]
noncomputable def wc(y:TB.J):Option (aH Tf):=
 bif(!(!y.1.2.2.2.2.1)) then
 some (((),y.1.2.1,y.1.2.2.1,y.1.2.2.2.1,y.1.2.2.2.2.2.1,(decide ((y.1.2.2.2.2.2.1.length:Int)<(3:Int))),()),(y.2.1.1,y.2.1.2.1,y.2.1.2.2.1,y.2.1.2.2.2.1,()),())
else
 some (((),y.1.2.1,y.1.2.2.1,y.1.2.2.2.1,y.1.2.2.2.2.2.1,true,()),(y.2.1.1,y.2.1.2.1,y.2.1.2.2.1,y.2.1.2.2.2.1,()),())
theorem ani:aV O (ap (codeOf Tryz.f170) 1 60) (aX TB Tf wc):=cn DU (by kernel_rfl) ag fun y=>by kernel_rfl
abbrev QZ:Shape:=⟨[ax 2 2 0,am 3,ar 4,am 6,aO 8 .str,aj 9],[aw 2 [ah,ba,ba,ah]],110⟩
abbrev QF:List aR:=[(.norm,⟨[ax 2 2 0,am 3,ar 4,am 6,aO 8 .str,aj 9,ar 74],[aw 2 [ah,ba,ba,ah]],110⟩)]
noncomputable def GA(y:QZ.J):Option (aH QF):=
(aS y.1.2.2.2.2.1 (0:Int)).bind fun a=>
 bif(!(!(a==([102,105,108,101]:B)))) then
 some (((),y.1.2.1,y.1.2.2.1,y.1.2.2.2.1,y.1.2.2.2.2.1,y.1.2.2.2.2.2.1,((y.1.2.2.2.2.1.length:Int) !=(4:Int)),()),(y.2.1.1,y.2.1.2.1,y.2.1.2.2.1,y.2.1.2.2.2.1,()),())
else
 some (((),y.1.2.1,y.1.2.2.1,y.1.2.2.2.1,y.1.2.2.2.2.1,y.1.2.2.2.2.2.1,true,()),(y.2.1.1,y.2.1.2.1,y.2.1.2.2.1,y.2.1.2.2.2.1,()),())
theorem ajb:aV O (ap (codeOf Tryz.f170) 1 2044) (aX QZ QF GA):=cn DU (by kernel_rfl) ag fun y=>by kernel_rfl
abbrev QY:Shape:=⟨[ax 2 2 0,am 3,ar 4,am 6,aO 8 .str,aj 9,ar 10,aj 11],[aw 2 [ah,ba,ba,ah]],110⟩
abbrev QE:List aR:=[(.norm,⟨[ax 2 2 0,am 3,ar 4,am 6,aO 8 .str,aj 9,aj 11,ar 96],[aw 2 [ah,ba,ba,ah]],110⟩)]
noncomputable def Gz(y:QY.J):Option (aH QE):=
 bif(!(!y.1.2.2.2.2.2.2.1)) then
 bif(!(decide ((y.1.2.2.2.1.length:Int)<=y.1.2.2.2.2.2.2.2.1))) then
(aS y.1.2.2.2.1 y.1.2.2.2.2.2.2.2.1).bind fun a=>
 some (((),y.1.2.1,y.1.2.2.1,y.1.2.2.2.1,y.1.2.2.2.2.1,y.1.2.2.2.2.2.1,y.1.2.2.2.2.2.2.2.1,((a.toNat:Int) !=(10:Int)),()),(y.2.1.1,y.2.1.2.1,y.2.1.2.2.1,y.2.1.2.2.2.1,()),())
else
 some (((),y.1.2.1,y.1.2.2.1,y.1.2.2.2.1,y.1.2.2.2.2.1,y.1.2.2.2.2.2.1,y.1.2.2.2.2.2.2.2.1,true,()),(y.2.1.1,y.2.1.2.1,y.2.1.2.2.1,y.2.1.2.2.2.1,()),())
else
 some (((),y.1.2.1,y.1.2.2.1,y.1.2.2.2.1,y.1.2.2.2.2.1,y.1.2.2.2.2.2.1,y.1.2.2.2.2.2.2.2.1,true,()),(y.2.1.1,y.2.1.2.1,y.2.1.2.2.1,y.2.1.2.2.2.1,()),())
theorem aja:aV O (ap (codeOf Tryz.f170) 1 8188) (aX QY QE Gz):=cn DU (by kernel_rfl) ag fun y=>by kernel_rfl
abbrev i170:Shape:=⟨[am 0],[],110⟩
abbrev Le:Shape:=⟨[ax 2 2 0,am 3,ar 4],[aw 2 [ah,ba,ba,ah]],110⟩
noncomputable def f170(a:i170.J):Option Le.J:=
(f114 ((a.1.1,([10]:B),()),())).bind fun b=>
(f216 ((b.1.1,([32]:B),(5:Int),()),())).bind fun c=>
(wc (((),([]:B),false,b.1.2.1,b.1.2.2.1,c.1.1,()),(([]:B),(0:Int),(0:Int),([]:B),()),())).bind fun d=>
 bif d.1.2.2.2.2.2.1 then
 some (((),([]:B),false,()),(([]:B),(0:Int),(0:Int),([]:B),()),())
else
(aS d.1.2.2.2.2.1 (0:Int)).bind fun e=>
 bif(e==([108,105,110,107]:B)) then
(aS d.1.2.2.2.2.1 (1:Int)).bind fun f=>
(aS d.1.2.2.2.2.1 (2:Int)).bind fun g=>
 some (((),d.1.2.2.2.1,((d.1.2.2.2.2.1.length:Int)==(3:Int)),()),(f,(3:Int),(0:Int),g,()),())
else
(aS d.1.2.2.2.2.1 (1:Int)).bind fun h=>
(f115 ((h,(7:Int),()),())).bind fun i=>
 bif(!i.1.2.1) then
 some (((),([]:B),false,()),(([]:B),(0:Int),(0:Int),([]:B),()),())
else
(aS d.1.2.2.2.2.1 (0:Int)).bind fun j=>
 bif(j==([100,105,114]:B)) then
(aS d.1.2.2.2.2.1 (2:Int)).bind fun k=>
 some (((),d.1.2.2.2.1,((d.1.2.2.2.2.1.length:Int)==(3:Int)),()),(k,(1:Int),i.1.1,([]:B),()),())
else
(GA (((),d.1.2.1,d.1.2.2.1,d.1.2.2.2.1,d.1.2.2.2.2.1,i.1.1,()),(d.2.1.1,d.2.1.2.1,d.2.1.2.2.1,d.2.1.2.2.2.1,()),())).bind fun l=>
 bif l.1.2.2.2.2.2.2.1 then
 some (((),([]:B),false,()),(([]:B),(0:Int),(0:Int),([]:B),()),())
else
(aS l.1.2.2.2.2.1 (3:Int)).bind fun m=>
(f115 ((m,(80:Int),()),())).bind fun n=>
(Gz (((),l.1.2.1,l.1.2.2.1,l.1.2.2.2.1,l.1.2.2.2.2.1,l.1.2.2.2.2.2.1,n.1.2.1,n.1.1,()),(l.2.1.1,l.2.1.2.1,l.2.1.2.2.1,l.2.1.2.2.2.1,()),())).bind fun D=>
 bif D.1.2.2.2.2.2.2.2.1 then
 some (((),([]:B),false,()),(([]:B),(0:Int),(0:Int),([]:B),()),())
else
(aS D.1.2.2.2.2.1 (2:Int)).bind fun p=>
(bq D.1.2.2.2.1 (0:Int) D.1.2.2.2.2.2.2.1).bind fun q=>
(bq D.1.2.2.2.1 (IntKind.i64.wrap (D.1.2.2.2.2.2.2.1+(1:Int))) (D.1.2.2.2.1.length:Int)).bind fun r=>
 some (((),r,true,()),(p,(2:Int),D.1.2.2.2.2.2.1,q,()),())
noncomputable def aaa:aI:=aL af Tryz.f170 i170 Le [] f170
theorem as0:aF O 170 aaa:=aM DU Tryz.func170 (by kernel_rfl) (a7 ani (a7 ajb (a7 aja ag))) (fun y=>by kernel_rfl) fun a=>by kernel_rfl
def C1(a' w2 cr r:B):Option (aB×B):=bif e' 80 cr then(match r.drop (db cr).toNat with|10::e4=>some (⟨w2,2,db a',r.take (db cr).toNat⟩,e4)|_=>none) else none
def j8(ws:List B)(r:B):Option (aB×B):=match ws with
 |U::a'::w2::more=>
  bif U==ik then(bif more==[] then some (⟨a',3,0,w2⟩,r) else none)
  else bif e' 7 a' then
   (bif U==im then(bif more==[] then some (⟨w2,1,db a',[]⟩,r) else none)
   else bif U==iH then(match more with|[cr]=>C1 a' w2 cr r|_=>none) else none)
  else none
 |_=>none
def nF(s:B):Option (aB×B):=match dC 10 s with
 |some (bC,r)=>j8 (splitN 32 4 bC) r
 |none=>none
theorem ag5{m:Int}{s:B}(h:e' m s=true):0<=db s/\db s<=m:=by
 unfold e' at h;simp only[bz,dW] at h;refine⟨?_,h.2⟩;have key:∀(s:B) (n:Int),s.all cR=true->0<=n->0<=s.foldl en n:=by
  intro s;induction s with
  |nil=>intro n _ h;exact h
  |cons b s ih=>
   intro n aa hn;simp only[List.all_cons,bz] at aa;have hb:=jf aa.1;refine ih _ aa.2 ?_
   unfold en;omega
 exact key s 0 h.1.1.1.1 (by decide)
theorem qK(c:UInt8):∀(k:Nat) (s p:B),p∈splitN c k s->p.length<=s.length:=by
 intro k;induction k with
 |zero=>intro s p h;simp[splitN] at h;subst h;exact Nat.le_refl _
 |succ k ih=>
  intro s p h;unfold splitN at h;cases hc:dC c s with
  |none=>rw[hc] at h;simp at h;subst h;exact Nat.le_refl _
  |some q=>
   obtain⟨x,y⟩:=q;rw[hc] at h;have hl:=(iT hc).1;have hl:s.length=x.length+1+y.length:=by rw[hl];simp;omega
   rcases bR.1 h with rfl|h
   ·omega
   ·have:=ih y p h;omega
theorem atT{aE:Type}(a b c:aE)(l:List aE):decide (((a::b::c::l).length:Int)<3)=false:=decide_eq_false (by simp;omega)
theorem azs{aE:Type}[BEq aE](a b c:aE)(l:List aE):(((a::b::c::l).length:Int)==3)=(l==[]):=by
 cases l with
 |nil=>rfl
 |cons x l=>
  have h:((x::l)==([]:List aE))=false:=rfl;rw[h,beq_eq_false_iff_ne];simp;omega
theorem Pc(s:B)(hs:s.length<=1000000):∃(r:B) (e:aB),f170 ((s,()),())=some (((),(r,((nF s).isSome,()))),((e.path,(e.kind,(e.mode,(e.text,())))),()))/\∀q,nF s=some q->q=(e,r):=by
 have hc:=nD 10 s (by unfold aA;omega)
 have hc:f114 ((s,(([10]:B),())),())=_:=hc;have zero:∀{D:Option (aB×B)} {x:Option Le.J},D=none->x=some (((),(([]:B),(false,()))),((([]:B),((0:Int),((0:Int),(([]:B),())))),()))->
   ∃(r:B) (e:aB),x=some (((),(r,(D.isSome,()))),((e.path,(e.kind,(e.mode,(e.text,())))),()))/\∀q,D=some q->q=(e,r):=by
  intro D x aP hx;subst aP;exact⟨[],⟨[],0,0,[]⟩,hx,fun q aC=>by cases aC⟩
 cases aC:dC 10 s with
 |none=>
  have hw:=Qs (hS 10 s) (by unfold hS;rw[aC];show s.length<=1000000000;omega)
  rw[aC] at hc;refine zero (by unfold nF;rw[aC]) ?_
  simp only[f170,hc,Y,hw,wc,Option.isSome_none,bK,bu,ak,ad]
 |some q=>
  obtain⟨bC,rest⟩:=q;have hl:=(iT aC).1;have hl:s.length=bC.length+1+rest.length:=by rw[hl];simp;omega
  have ha:hS 10 s=bC:=by unfold hS;rw[aC]
  have hb:hQ 10 s=rest:=by unfold hQ;rw[aC]
  have hw:=Qs bC (by omega)
  rw[aC,ha,hb] at hc;have hr:nF s=j8 (splitN 32 4 bC) rest:=by unfold nF;rw[aC]
  have hm:=qK 32 4 bC;rw[hr];generalize splitN 32 4 bC=ws at hw hm;have short:decide ((ws.length:Int)<3)=true->j8 ws rest=none->∃(r:B) (e:aB),f170 ((s,()),())=some (((),(r,((j8 ws rest).isSome,()))),((e.path,(e.kind,(e.mode,(e.text,())))),()))/\∀q,j8 ws rest=some q->q=(e,r):=by
   intro h1 h2;refine zero h2 ?_
   simp only[f170,hc,Y,hw,wc,Option.isSome_some,bK,bu,ak,ad,h1]
  match ws,short,hw,hm with
  |[],short,hw,hm=>exact short rfl rfl
  |[_],short,hw,hm=>exact short rfl rfl
  |[_,_],short,hw,hm=>exact short rfl rfl
  |U::a'::w2::more,_,hw,hm=>
   have eU:aS (U::a'::w2::more) (0:Int)=some U:=rfl;have ep:aS (U::a'::w2::more) (1:Int)=some a':=rfl;have gr:aS (U::a'::w2::more) (2:Int)=some w2:=rfl;have h3:=atT U a' w2 more;have dU:=azs U a' w2 more;have m1:=hm a' (by simp)
   have n1:=y_ a' 7 (by unfold aA;omega)
   simp only[f170,hc,Y,hw,wc,Option.isSome_some,bK,bu,ak,ad,h3,eU,ep,gr,dU,n1];unfold j8;have C':(U==([108,105,110,107]:B))=(U==ik):=rfl;have xh:(U==([100,105,114]:B))=(U==im):=rfl;have tY:(U==([102,105,108,101]:B))=(U==iH):=rfl;simp only[C',xh];cases fe:U==ik with
   |true=>
    simp only[ad];refine⟨rest,⟨a',3,0,w2⟩,?_,fun q aC=>?_⟩
    ·cases more==[]<;>rfl
    ·cases M5:more==[]<;>rw[M5] at aC<;>simp at aC
     exact aC.symm
   |false=>
    simp only[ak];cases E1:e' 7 a' with
    |false=>
     simp only[bK,ad,ak];exact zero rfl rfl
    |true=>
     simp only[bu,ad,ak];cases E2:U==im with
     |true=>
      simp only[ad];refine⟨rest,⟨w2,1,db a',[]⟩,?_,fun q aC=>?_⟩
      ·cases more==[]<;>rfl
      ·cases M5:more==[]<;>rw[M5] at aC<;>simp at aC
       exact aC.symm
     |false=>
      simp only[ak,GA,eU,Y,tY];cases aDz:U==iH with
      |false=>
       simp only[bK,bu,ad,ak,Y];exact zero rfl rfl
      |true=>
       simp only[bK,bu,ad,ak,Y];match more,hm,eU,ep,gr,h3,dU,hw with
       |[],hm,eU,ep,gr,h3,dU,hw=>exact zero rfl rfl
       |cr::lu::m,hm,eU,ep,gr,h3,dU,hw=>
        have:((((U::a'::w2::cr::lu::m).length:Nat):Int) !=4)=true:=by rw[bne_iff_ne];simp;omega
        simp only[this,ad];exact zero rfl rfl
       |[cr],hm,eU,ep,gr,h3,dU,hw=>
        have aD:(((([U,a',w2,cr]:List B).length:Nat):Int) !=4)=false:=rfl;have jX:aS [U,a',w2,cr] (3:Int)=some cr:=rfl;have m3:=hm cr (by simp)
        have je:=y_ cr 80 (by unfold aA;omega)
        simp only[aD,ak,jX,Y,je,Gz];unfold C1;cases Oj:e' 80 cr with
        |false=>
         simp only[bK,bu,ad,ak,Y];exact zero rfl rfl
        |true=>
         obtain⟨b1,b2⟩:=ag5 Oj;obtain⟨n,hn⟩:=Int.eq_ofNat_of_zero_le b1;simp only[bK,bu,ad,ak,Y,hn,Int.toNat_natCast];rw[hn] at b2;by_cases hle:rest.length<=n
         ·have d1:decide (((rest.length:Nat):Int)<=(n:Int))=true:=decide_eq_true (by omega)
          have d2:rest.drop n=[]:=List.drop_eq_nil_of_le hle;simp only[d1,bu,ak,Y,ad,d2];exact zero rfl rfl
         ·have d1:decide (((rest.length:Nat):Int)<=(n:Int))=false:=decide_eq_false (by omega)
          obtain⟨b,e4,aa⟩:∃b e4,rest.drop n=b::e4:=by
           cases h:rest.drop n with
           |nil=>have:=List.drop_eq_nil_iff.1 h;omega
           |cons b e4=>exact⟨b,e4,rfl⟩
          have ayG:aS rest (n:Int)=some b:=by
           rw[cd];have:rest[n]? =(rest.drop n)[0]? :=by simp
           rw[this,aa];rfl
          simp only[d1,bK,ad,ayG,Y,aa];by_cases Nv:b=10
          ·subst Nv;have t:((((10:UInt8).toNat:Nat):Int) !=10)=false:=rfl;have s1:bq rest 0 (n:Int)=some (rest.take n):=gx (by omega)
           have hw1:IntKind.i64.wrap ((n:Int)+1)=((n+1:Nat):Int):=b9 (by unfold aA;omega)
           have dq:rest.drop (n+1)=e4:=by rw[<-List.drop_drop,aa];rfl
           have s2:bq rest ((n+1:Nat):Int) ((rest.length:Nat):Int)=some e4:=by rw[fC (by omega),dq]
           simp only[t,ak,s1,hw1,s2,Y];exact⟨e4,⟨w2,2,db a',rest.take n⟩,rfl,fun q aC=>by simp at aC;exact aC.symm⟩
          ·have t:(((b.toNat:Nat):Int) !=10)=true:=by
            rw[bne_iff_ne];intro h;exact Nv (UInt8.toNat_inj.1 (by show b.toNat=10;omega))
           simp only[t,ad];refine zero ?_ rfl;split
           ·rename_i h;cases h;exact absurd rfl Nv
           ·rfl
noncomputable abbrev av7:a8:=[(105,xq),(170,aaa)]
theorem Mm:aT O (aZ af av7):=aY ⟨z105,as0,⟨⟩⟩
abbrev Q4:Shape:=⟨[bd 4 3000256,ax 6 6 0,am 7,ar 8],[bc 3000256 .entry 4 0,aw 6 [ah,ba,ba,ah]],34⟩
abbrev QK:List aR:=[(.norm,⟨[bd 4 3000256,ax 6 6 0,am 7,ar 24],[bc 3000256 .entry 4 0,aw 6 [ah,ba,ba,ah]],34⟩)]
noncomputable def sW(y:Q4.J):Option (aH QK):=
 bif(!(!y.1.2.2.2.1)) then
 some (((),(),y.1.2.2.1,((y.2.1.length:Int)==(16:Int)),()),y.2.1,(y.2.2.1.1,y.2.2.1.2.1,y.2.2.1.2.2.1,y.2.2.1.2.2.2.1,()),())
else
 some (((),(),y.1.2.2.1,true,()),y.2.1,(y.2.2.1.1,y.2.2.1.2.1,y.2.2.1.2.2.1,y.2.2.1.2.2.2.1,()),())
theorem ajl:aV O (ap (dk (ap (codeOf Tryz.f118) 1 60)) 120 3860) (aX Q4 QK sW):=cn Mm (by kernel_rfl) ag fun y=>by kernel_rfl
abbrev A_:Shape:=⟨[bd 4 3000256,am 5],[bc 3000256 .entry 4 0],34⟩
abbrev Iy:List aR:=[(.ret,⟨[bd 2 3000128,ar 3],[bc 3000128 .entry 2 0],34⟩),(.exit 0,⟨[bd 4 3000256],[bc 3000256 .entry 4 0],34⟩)]
noncomputable def rf(y:A_.J):bQ A_ Iy:=
 bif(!(y.1.2.1==([]:B))) then
(f170 ((y.1.2.1,()),())).bind fun a=>
(sW (((),(),a.1.2.1,a.1.2.2.1,()),y.2.1,(a.2.1.1,a.2.1.2.1,a.2.1.2.2.1,a.2.1.2.2.2.1,()),())).bind fun b=>
 bif b.1.2.2.2.1 then
 some (.inr (.inl (((),false,()),([]:List aB),())))
else
(cm 48 b.2.1 ([(aB.mk b.2.2.1.1 b.2.2.1.2.1 b.2.2.1.2.2.1 b.2.2.1.2.2.2.1)]:List aB)).bind fun c=>
 some (.inl (((),b.1.2.2.1,()),c,()))
else
 some (.inr (.inr (((),()),y.2.1,())))
noncomputable def v6:A_.J->Option (aH Iy):=bA rf
theorem anE:aV O (ap (codeOf Tryz.f118) 1 60) (aX A_ Iy v6):=bT Mm (by kernel_rfl) (a7 ajl ag) fun y=>by kernel_rfl
abbrev i118:Shape:=⟨[am 0],[],34⟩
abbrev Zz:Shape:=⟨[bd 2 3000128,ar 3],[bc 3000128 .entry 2 0],34⟩
noncomputable def f118(a:i118.J):Option Zz.J:=
(v6 (((),a.1.1,()),([]:List aB),())).bind fun b=>
(match b with
|.inl c=>
 some (((),c.1.2.1,()),c.2.1,())
|.inr d=>
(f105 ((d.2.1,()),())).bind fun e=>
 bif(!e.1.1) then
 some (((),false,()),([]:List aB),())
else
 some (((),true,()),d.2.1,()))
noncomputable def aaE:aI:=aL af Tryz.f118 i118 Zz [] f118
theorem ati:aF O 118 aaE:=aM Mm Tryz.func118 (by kernel_rfl) (a7 anE ag) (fun y=>by kernel_rfl) fun a=>by kernel_rfl
theorem Hd{n:Nat}{m:Int}(h:(n:Int)<=m)(iA:n<1000000000):e' m (Lib.itoa (n:Int))=true/\db (Lib.itoa (n:Int))=(n:Int):=by
 rw[qW];exact⟨alw h iA,Jv n⟩
theorem O4(ws:List B)(k:Nat)(h:ws≠[])(hn:∀w,w∈ws->cp 32 w)(hk:ws.length<=k+1):splitN 32 k (lY ws)=ws:=by
 have:=P7 h hn;rw[yY 32 k _ (by rw[this];exact hk),this]
theorem Q9{e:aB}(h:e9 e=true)(r:B):nF (et e++r)=some (e,r):=by
 have hw:=(FV h).1;unfold nF;rw[Rg h];show j8 (splitN 32 4 (pZ e)) (wO e r)=_;obtain⟨n,hn,iB⟩:=He h;obtain⟨g1,g2⟩:=Hd (n:=n) (m:=7) (by omega) (by omega)
 have rT:splitN 32 4 (pZ e)=mA e:=O4 _ 4 (by unfold mA;cases e.kind==1<;>cases e.kind==3<;>simp) hw (by unfold mA;cases e.kind==1<;>cases e.kind==3<;>simp)
 rw[rT];obtain⟨p,k,m,t⟩:=e;have hn:m=n:=hn;subst hn;rcases vu h with hk|hk|hk
 ·have hk:k=1:=hk;subst hk;have ay:t=[]:=Rr h rfl;subst ay;show j8 [im,Lib.itoa (n:Int),p] r=_;unfold j8;have e1:(im==ik)=false:=by decide
  have e2:(im==im)=true:=by decide
  simp only[e1,e2,g1,g2,ad,ak];rfl
 ·have hk:k=2:=hk;subst hk;have hb:t.length<=80:=by
   have:=Qb h rfl;unfold oG at this;simp only[bz,dW] at this;exact this.2
  obtain⟨aG,aK⟩:=Hd (n:=t.length) (m:=80) (by omega) (by omega)
  show j8 [iH,Lib.itoa (n:Int),p,Lib.itoa (t.length:Int)] (t++10::r)=_;unfold j8;have e1:(iH==ik)=false:=by decide
  have e2:(iH==im)=false:=by decide
  have bE:(iH==iH)=true:=by decide
  simp only[e1,e2,bE,g1,g2,ad,ak];unfold C1;have d1:(t++10::r).drop t.length=10::r:=by simp
  have d2:(t++10::r).take t.length=t:=by simp
  simp only[aG,aK,ad,Int.toNat_natCast,d1,d2,g2]
 ·have hk:k=3:=hk;subst hk;obtain⟨_,hm⟩:=FR h rfl;have hm:(n:Int)=0:=hm;show j8 [ik,p,t] r=_;unfold j8;have e1:(ik==ik)=true:=by decide
  simp only[e1,ad];rw[hm];rfl
theorem Gf{s r:B}{e:aB}(h:nF s=some (e,r)):e.path.length<=s.length/\e.text.length<=s.length/\r.length<s.length:=by
 unfold nF at h;cases aC:dC 10 s with
 |none=>rw[aC] at h;cases h
 |some q=>
  obtain⟨bC,rest⟩:=q;rw[aC] at h;have hl:=(iT aC).1;have hl:s.length=bC.length+1+rest.length:=by rw[hl];simp;omega
  have hm:=qK 32 4 bC;have h:j8 (splitN 32 4 bC) rest=some (e,r):=h;generalize splitN 32 4 bC=ws at h hm;match ws,h,hm with
  |[],h,hm=>cases h
  |[_],h,hm=>cases h
  |[_,_],h,hm=>cases h
  |U::a'::w2::more,h,hm=>
   have m1:=hm a' (by simp)
   have m2:=hm w2 (by simp)
   unfold j8 at h;simp only at h;cases fe:U==ik<;>simp only[fe,ad,ak] at h
   ·cases e1:e' 7 a'<;>simp only[e1,ad,ak] at h
    ·cases h
    ·cases e2:U==im<;>simp only[e2,ad,ak] at h
     ·cases bE:U==iH<;>simp only[bE,ad,ak] at h
      ·cases h
      ·split at h
       ·rename_i cr;unfold C1 at h;cases dN:e' 80 cr<;>simp only[dN,ad,ak] at h
        ·cases h
        ·split at h
         ·rename_i e4 aa;simp only[bH,Prod.mk.injEq] at h;obtain⟨rfl,rfl⟩:=h;have M8:=congrArg List.length aa;simp only[List.length_drop,cY] at M8;refine⟨by show w2.length<=_;omega,by show(rest.take _).length<=_;simp;omega,by omega⟩
         ·cases h
       ·cases h
     ·cases bE:more==[]<;>simp only[bE,ad,ak] at h
      ·cases h
      ·simp only[bH,Prod.mk.injEq] at h;obtain⟨rfl,rfl⟩:=h;exact⟨by show w2.length<=_;omega,by show 0<=_;omega,by omega⟩
   ·cases bE:more==[]<;>simp only[bE,ad,ak] at h
    ·cases h
    ·simp only[bH,Prod.mk.injEq] at h;obtain⟨rfl,rfl⟩:=h;exact⟨by show a'.length<=_;omega,by show w2.length<=_;omega,by omega⟩
def qk(k:Nat)(t:List aB):Prop:=∀e,e∈t->e.path.length<=k/\e.text.length<=k
theorem ao2:∀(m:Nat) (s:B) (t:List aB),s.length<=m->m<=1000000->t.length<=16->qk 1000000 t->
  (∃ns:List aB,v6 (((),(s,())),(t,()))=some (.inr (((),()),(ns,())))/\ns.length<=16/\qk 1000000 ns)\/v6 (((),(s,())),(t,()))=some (.inl (((),(false,())),(([]:List aB),()))):=by
 intro m;induction m with
 |zero=>
  intro s t hs _ ay ha;have:s=[]:=List.length_eq_zero_iff.1 (by omega)
  subst this;exact .inl ⟨t,cC rfl,ay,ha⟩
 |succ m ih=>
  intro s t hs hm ay ha;cases s with
  |nil=>exact .inl ⟨t,cC rfl,ay,ha⟩
  |cons b iR=>
   have hne:((b::iR)==([]:B))=false:=rfl;generalize e5:b::iR=s at hs hne;obtain⟨r,e,h1,h2⟩:=Pc s (by omega)
   cases hr:nF s with
   |none=>
    rw[hr] at h1;refine .inr (cC ?_);simp only[rf,hne,bK,ad,h1,Y,Option.isSome_none,sW,bu,ak]
   |some q=>
    have aC:=h2 q hr;subst aC;rw[hr] at h1;obtain⟨ed,fU,u'⟩:=Gf hr;by_cases x9:t.length=16
    ·refine .inr (cC ?_);have d:(((t.length:Nat):Int)==16)=true:=by rw[beq_iff_eq];omega
     simp only[rf,hne,bK,ad,h1,Y,Option.isSome_some,sW,bu,ak,d]
    ·have d:(((t.length:Nat):Int)==16)=false:=by rw[beq_eq_false_iff_ne];omega
     have fJ:cm 48 t ([(aB.mk e.path e.kind e.mode e.text)]:List aB)=some (t++[e]):=dw (by decide) (by unfold aA;simp;omega)
     have st:rf (((),(s,())),(t,()))=some (.inl (((),(r,())),(t++[e],()))):=by
      simp only[rf,hne,bK,ad,h1,Y,Option.isSome_some,sW,bu,ak,d,fJ]
     have auL:qk 1000000 (t++[e]):=fun x hx=>by
      rcases bo.1 hx with hx|hx
      ·exact ha x hx
      ·rw[List.mem_singleton.1 hx];exact⟨by omega,by omega⟩
     rcases ih r (t++[e]) (by omega) (by omega) (by simp;omega) auL with⟨ns,g1,g2,g3⟩|g1
     ·exact .inl ⟨ns,(ea st).trans g1,g2,g3⟩
     ·exact .inr ((ea st).trans g1)
theorem ao1:∀(cv t:List aB),(∀e,e∈cv->e9 e=true)->t.length+cv.length<=16->(dt cv).length<=1000000->
  v6 (((),(dt cv,())),(t,()))=some (.inr (((),()),(t++cv,()))):=by
 intro cv;induction cv with
 |nil=>intro t _ _ _;rw[List.append_nil];exact cC rfl
 |cons e cv ih=>
  intro t h ay hl;have he:=h e cj;have hr:=Q9 he (dt cv);have hE:dt (e::cv)=et e++dt cv:=by unfold dt;rw[List.flatMap_cons]
  rw[hE] at hl ⊢;have hlen:=(Gf hr).2.2;have hne:((et e++dt cv)==([]:B))=false:=by
   cases hx:et e++dt cv with
   |nil=>rw[hx] at hlen;simp at hlen
   |cons b r=>rfl
  obtain⟨r,cW,h1,h2⟩:=Pc (et e++dt cv) hl;have aC:=h2 _ hr;simp only[Prod.mk.injEq] at aC;obtain⟨rfl,rfl⟩:=aC;rw[hr] at h1;have d:(((t.length:Nat):Int)==16)=false:=by rw[beq_eq_false_iff_ne];simp at ay;omega
  have fJ:cm 48 t ([(aB.mk e.path e.kind e.mode e.text)]:List aB)=some (t++[e]):=dw (by decide) (by unfold aA;simp;simp at ay;omega)
  have st:rf (((),(et e++dt cv,())),(t,()))=some (.inl (((),(dt cv,())),(t++[e],()))):=by
   simp only[rf,hne,bK,ad,h1,Y,Option.isSome_some,sW,bu,ak,d,fJ]
  have:=ih (t++[e]) (fun x hx=>h x (ci _ hx)) (by simp at ay ⊢;omega) (by omega)
  rw[List.append_assoc] at this;exact(ea st).trans this
theorem ae4(s:B)(hs:s.length<=1000000):∃(ok:Bool) (t:List aB),f118 ((s,()),())=some (((),(ok,())),(t,()))/\t.length<=16/\qk 1000000 t:=by
 rcases ao2 s.length s [] (Nat.le_refl _) hs (by decide) (fun x hx=>by cases hx) with⟨ns,g1,g2,g3⟩|g1
 ·have ay:=qN ((ns,()),()) ⟨by show ns.length<=2097152;omega,fun e he=>by have:=g3 e he;exact⟨by show e.path.length<=2097152;omega,by show e.text.length<=2097152;omega⟩⟩
  have ay:f105 ((ns,()),())=some ((dQ ns,()),()):=ay;simp only[f118,g1,Y,ay];cases dQ ns with
  |false=>exact⟨false,[],rfl,by simp,fun x hx=>by cases hx⟩
  |true=>exact⟨true,ns,rfl,g2,g3⟩
 ·simp only[f118,g1,Y];exact⟨false,[],rfl,by simp,fun x hx=>by cases hx⟩
theorem ae3(t:List aB)(h:dQ t=true)(hs:(dt t).length<=1000000)(hb:iL t):
  f118 ((dt t,()),())=some (((),(true,())),(t,())):=by
 have g1:=ao1 t [] (vp h) (by have:=j2 h;simpa using this) hs
 have ay:=qN ((t,()),()) hb;have ay:f105 ((t,()),())=some ((dQ t,()),()):=ay;simp only[f118,g1,List.nil_append,Y,ay,h,bu,ak]
noncomputable abbrev av8:a8:=[(114,xp),(168,aac),(169,aab)]
theorem Mn:aT O (aZ af av8):=aY ⟨Dn,z168,as1,⟨⟩⟩
abbrev Q5:Shape:=⟨[bd 5 3000320,am 7,ar 10,ax 11 11 0,ar 12],[bc 3000320 .need 5 0,aw 11 [ah,ba,ah]],46⟩
abbrev QL:List aR:=[(.norm,⟨[bd 5 3000320,am 7,ax 11 11 0,ar 40],[bc 3000320 .need 5 0,aw 11 [ah,ba,ah]],46⟩)]
noncomputable def vC(y:Q5.J):Option (aH QL):=
 bif(!(!y.1.2.2.1)) then
 some (((),y.1.2.1,(),(!y.1.2.2.2.2.1),()),y.2.1,(y.2.2.1.1,y.2.2.1.2.1,y.2.2.1.2.2.1,()),())
else
 some (((),y.1.2.1,(),true,()),y.2.1,(y.2.2.1.1,y.2.2.1.2.1,y.2.2.1.2.2.1,()),())
theorem ajm:aV O (ap (dk (ap (codeOf Tryz.f117) 1 14)) 28 7292) (aX Q5 QL vC):=cn Mn (by kernel_rfl) ag fun y=>by kernel_rfl
abbrev A':Shape:=⟨[am 0,bd 5 3000320],[bc 3000320 .need 5 0],46⟩
abbrev Iz:List aR:=[(.ret,⟨[bd 2 3000128,am 3,ar 4],[bc 3000128 .need 2 0],46⟩)]
noncomputable def my(y:A'.J):bQ A' Iz:=
(f114 ((y.1.1,([10]:B),()),())).bind fun a=>
 bif(!a.1.2.2.1) then
 some (.inr (((),([]:B),false,()),([]:List bD),()))
else
 bif(a.1.1==([]:B)) then
 some (.inr (((),a.1.2.1,true,()),y.2.1,()))
else
(f168 ((a.1.1,([110,101,101,100,32]:B),()),())).bind fun b=>
(f169 ((b.1.1,()),())).bind fun c=>
(vC (((),a.1.2.1,b.1.2.1,(),c.1.2.1,()),y.2.1,(c.2.1.1,c.2.1.2.1,c.2.1.2.2.1,()),())).bind fun d=>
 bif d.1.2.2.2.1 then
 some (.inr (((),([]:B),false,()),([]:List bD),()))
else
(cm 40 d.2.1 ([(bD.mk d.2.2.1.1 d.2.2.1.2.1 d.2.2.1.2.2.1)]:List bD)).bind fun e=>
 some (.inl ((d.1.2.1,(),()),e,()))
noncomputable def Bj:A'.J->Option (aH Iz):=bA my
theorem anF:aV O (ap (codeOf Tryz.f117) 1 14) (aX A' Iz Bj):=bT Mn (by kernel_rfl) (a7 ajm ag) fun y=>by kernel_rfl
abbrev i117:Shape:=⟨[am 0],[],46⟩
abbrev ZA:Shape:=⟨[bd 2 3000128,am 3,ar 4],[bc 3000128 .need 2 0],46⟩
noncomputable def f117(a:i117.J):Option ZA.J:=
(Bj ((a.1.1,(),()),([]:List bD),())).bind fun b=>
 some (((),b.1.2.1,b.1.2.2.1,()),b.2.1,())
noncomputable def aaF:aI:=aL af Tryz.f117 i117 ZA [] f117
theorem z117:aF O 117 aaF:=aM Mn Tryz.func117 (by kernel_rfl) (a7 anF ag) (fun y=>by kernel_rfl) fun a=>by kernel_rfl
def uy(k:Nat)(t:List bD):Prop:=∀e,e∈t->e.name.length<=k/\e.a6.length<=k
theorem aiV{a t:B}{n:bD}(h:pX a t=some n):n.name=a/\n.a6.length<=t.length:=by
 unfold pX at h;split at h
 ·cases h;exact⟨rfl,by simp;omega⟩
 ·cases h;exact⟨rfl,by simp⟩
 ·cases h;exact⟨rfl,by simp⟩
 ·cases h
theorem aiX{s:B}{n:bD}(h:k1 s=some n):n.name.length<=s.length/\n.a6.length<=s.length:=by
 unfold k1 at h;split at h
 ·rename_i k _;obtain⟨h1,h2⟩:=aiV h;rw[h1];simp at h2 ⊢;omega
 ·cases h;exact⟨Nat.le_refl _,by simp⟩
theorem alT(s:B):((e6 s).getD iO).name.length<=s.length/\((e6 s).getD iO).a6.length<=s.length:=by
 have no:e6 s=none->((e6 s).getD iO).name.length<=s.length/\((e6 s).getD iO).a6.length<=s.length:=fun h=>by
  rw[h];exact⟨Nat.zero_le _,Nat.zero_le _⟩
 cases h:k1 s with
 |none=>exact no (by unfold e6;rw[h])
 |some n=>
  have hG:e6 s=bif dR n then some n else none:=by unfold e6;rw[h]
  cases hk:dR n with
  |true=>rw[hG,hk];exact aiX h
  |false=>exact no (by rw[hG,hk];rfl)
theorem Rt{p s r:B}(h:eo p s=some r):r.length<=s.length:=by
 unfold eo at h;cases hc:decide (p.length<=s.length)&&s.take p.length==p with
 |false=>rw[hc] at h;cases h
 |true=>rw[hc] at h;cases h;simp
theorem alU(p s:B):((eo p s).getD s).length<=s.length:=by
 cases h:eo p s with
 |none=>exact Nat.le_refl _
 |some r=>exact Rt h
theorem ao8:∀(m:Nat) (s:B) (t:List bD),s.length<=m->t.length+m<=1000000->uy 1000000 t->
  ∃(r:B) (ok:Bool) (ns:List bD),Bj ((s,((),())),(t,()))=some (((),(r,(ok,()))),(ns,()))/\r.length<=s.length/\ns.length<=1000000/\uy 1000000 ns:=by
 intro m;induction m with
 |zero=>
  intro s t hs ay ha;have:s=[]:=List.length_eq_zero_iff.1 (by omega)
  subst this;have hc:=nD 10 [] (by unfold aA;simp)
  have hc:f114 ((([]:B),(([10]:B),())),())=some ((([]:B),(([]:B),(false,()))),()):=hc;refine⟨[],false,[],cC ?_,by simp,by simp,fun x hx=>by cases hx⟩
  simp only[my,hc,Y,bK,ad]
 |succ m ih=>
  intro s t hs ay ha;have hc:=nD 10 s (by unfold aA;omega)
  have hc:f114 ((s,(([10]:B),())),())=_:=hc;cases aC:dC 10 s with
  |none=>
   rw[aC] at hc;refine⟨[],false,[],cC ?_,by simp,by simp,fun x hx=>by cases hx⟩
   simp only[my,hc,Y,Option.isSome_none,bK,ad]
  |some q=>
   obtain⟨bC,rest⟩:=q;have hl:=(iT aC).1;have hl:s.length=bC.length+1+rest.length:=by rw[hl];simp;omega
   have er:hS 10 s=bC:=by unfold hS;rw[aC]
   have hB:hQ 10 s=rest:=by unfold hQ;rw[aC]
   rw[aC,er,hB] at hc;cases he:bC==([]:B) with
   |true=>
    refine⟨rest,true,t,cC ?_,by omega,by omega,ha⟩
    simp only[my,hc,Y,Option.isSome_some,bu,ak,he,ad]
   |false=>
    have hp:=Ph bC [110,101,101,100,32];have hp:f168 ((bC,(([110,101,101,100,32]:B),())),())=_:=hp;have bn:=alU [110,101,101,100,32] bC;generalize(eo [110,101,101,100,32] bC).getD bC=w at hp bn;have hn:=Qv w (by omega)
    have Et:=alT w;cases cl:(eo [110,101,101,100,32] bC).isSome&&(e6 w).isSome with
    |false=>
     refine⟨[],false,[],cC ?_,by simp,by simp,fun x hx=>by cases hx⟩
     simp only[my,hc,Y,Option.isSome_some,bu,ak,he,hp,hn,vC];cases iB:(eo [110,101,101,100,32] bC).isSome with
     |false=>simp only[bK,bu,ak,ad,Y]
     |true=>
      rw[iB] at cl;have cl:(e6 w).isSome=false:=cl;simp only[cl,bK,bu,ak,ad,Y]
    |true=>
     rw[bz] at cl;have fJ:cm 40 t ([(bD.mk ((e6 w).getD iO).name ((e6 w).getD iO).kind ((e6 w).getD iO).a6)]:List bD)=some (t++[(e6 w).getD iO]):=dw (by decide) (by unfold aA;simp;omega)
     have st:my ((s,((),())),(t,()))=some (.inl ((rest,((),())),(t++[(e6 w).getD iO],()))):=by
      simp only[my,hc,Y,Option.isSome_some,bu,ak,he,hp,hn,vC,cl.1,cl.2,bK,ad,fJ]
     obtain⟨r,ok,ns,g1,g2,g3,g4⟩:=ih rest (t++[(e6 w).getD iO]) (by omega) (by simp;omega) (fun x hx=>by
      rcases bo.1 hx with hx|hx
      ·exact ha x hx
      ·rw[List.mem_singleton.1 hx];exact⟨by omega,by omega⟩)
     exact⟨r,ok,ns,(ea st).trans g1,by omega,g3,g4⟩
theorem ao7:∀(ns t:List bD) (r:B),(∀n,n∈ns->dR n=true)->t.length+ns.length<=1000->(ns.flatMap cM++10::r).length<=1000000->
  Bj ((ns.flatMap cM++10::r,((),())),(t,()))=some (((),(r,(true,()))),(t++ns,())):=by
 intro ns;induction ns with
 |nil=>
  intro t r _ _ hs;have hc:=nD 10 (10::r) (by unfold aA;simp at hs ⊢;omega)
  have er:hS 10 (10::r)=[]:=by unfold hS;rw[J1]
  have hB:hQ 10 (10::r)=r:=by unfold hQ;rw[J1]
  rw[er,hB,J1] at hc;have hc:f114 ((10::r,(([10]:B),())),())=some ((([]:B),(r,(true,()))),()):=hc;have he:(([]:B)==([]:B))=true:=rfl;rw[List.append_nil];refine cC ?_
  show my ((10::r,((),())),(t,()))=_;simp only[my,hc,Y,bu,ak,he,ad]
 |cons n ns ih=>
  intro t r h ay hs;have hk:=h n cj;have gn:=ajt (n:=n) (ns:=ns) (r:=10::r) hk;generalize e5:(n::ns).flatMap cM++10::r=s at hs gn;have hc:=nD 10 s (by unfold aA;omega)
  have hl:=(iT gn).1;have hl:s.length=(gj++32::cZ n).length+1+(ns.flatMap cM++10::r).length:=by rw[hl];simp;omega
  have er:hS 10 s=gj++32::cZ n:=by unfold hS;rw[gn]
  have hB:hQ 10 s=ns.flatMap cM++10::r:=by unfold hQ;rw[gn]
  rw[er,hB,gn] at hc;have hc:f114 ((s,(([10]:B),())),())=some ((gj++32::cZ n,(ns.flatMap cM++10::r,(true,()))),()):=hc;have he:((gj++32::cZ n)==([]:B))=false:=rfl;have aa:eo [110,101,101,100,32] (gj++32::cZ n)=some (cZ n):=vE [110,101,101,100,32] (cZ n);have hp:=Ph (gj++32::cZ n) [110,101,101,100,32];rw[aa] at hp;have hp:f168 ((gj++32::cZ n,(([110,101,101,100,32]:B),())),())=some ((cZ n,(true,())),()):=hp;have hn:=Qv (cZ n) (by simp[gj] at hl;omega)
  rw[alS hk] at hn;have hn:f169 ((cZ n,()),())=some (((),(true,())),((n.name,(n.kind,(n.a6,()))),())):=hn;have fJ:cm 40 t ([(bD.mk n.name n.kind n.a6)]:List bD)=some (t++[n]):=dw (by decide) (by unfold aA;simp;simp at ay;omega)
  have st:my ((s,((),())),(t,()))=some (.inl ((ns.flatMap cM++10::r,((),())),(t++[n],()))):=by
   simp only[my,hc,Y,bu,ak,he,hp,hn,vC,bK,ad,fJ]
  have:=ih (t++[n]) r (fun x hx=>h x (ci _ hx)) (by simp at ay ⊢;omega) (by omega)
  rw[List.append_assoc] at this;exact(ea st).trans this
theorem aeU(s:B)(hs:s.length<=1000000):∃(r:B) (ok:Bool) (ns:List bD),f117 ((s,()),())=some (((),(r,(ok,()))),(ns,()))/\r.length<=s.length/\ns.length<=1000000/\uy 1000000 ns:=by
 obtain⟨r,ok,ns,g1,g2⟩:=ao8 s.length s [] (Nat.le_refl _) (by simpa using hs) (fun x hx=>by cases hx)
 exact⟨r,ok,ns,by simp only[f117,g1,Y],g2⟩
theorem aeT(ns:List bD)(r:B)(h:∀n,n∈ns->dR n=true)(hl:ns.length<=1000)(hs:(ns.flatMap cM++10::r).length<=1000000):
  f117 ((ns.flatMap cM++10::r,()),())=some (((),(r,(true,()))),(ns,())):=by
 have g1:=ao7 ns [] r h (by simpa using hl) hs
 simp only[f117,g1,Y,List.nil_append]
noncomputable abbrev aAf:a8:=[(36,NO),(55,EI),(114,xp),(116,aaG),(117,aaF),(118,aaE)]
theorem adQ:aT O (aZ af aAf):=aY ⟨abm,Mp,Dn,z116,z117,ati,⟨⟩⟩
abbrev QR:Shape:=⟨[am 0,ax 2 2 0,ax 11 11 0,ar 14],[bv 5000130 .need 2 2,bv 5000131 .entry 2 3,aw 2 [ah,ah,.own 5000130,.own 5000131],bv 5000706 .need 11 2,bv 5000707 .entry 11 3,aw 11 [ah,ah,.own 5000706,.own 5000707]],76⟩
abbrev Qx:List aR:=[(.norm,⟨[ax 2 2 0,ax 11 11 0,ar 73],[bv 5000130 .need 2 2,bv 5000131 .entry 2 3,aw 2 [ah,ah,.own 5000130,.own 5000131],bv 5000706 .need 11 2,bv 5000707 .entry 11 3,aw 11 [ah,ah,.own 5000706,.own 5000707]],76⟩)]
noncomputable def qP(y:QR.J):Option (aH Qx):=
 bif(!(!y.1.2.2.2.1)) then
(f55 (((y.2.2.2.2.2.2.1.1,y.2.2.2.2.2.2.1.2.1,y.2.2.2.2.1,y.2.2.2.2.2.1,()),()),())).bind fun a=>
 bif(!(!a.1.1)) then
(f36 (((y.2.2.2.2.2.2.1.1,y.2.2.2.2.2.2.1.2.1,y.2.2.2.2.1,y.2.2.2.2.2.1,()),()),())).bind fun b=>
 some (((),(),(!(b.1.1==y.1.1)),()),y.2.1,y.2.2.1,(y.2.2.2.1.1,y.2.2.2.1.2.1,(),(),()),y.2.2.2.2.1,y.2.2.2.2.2.1,(y.2.2.2.2.2.2.1.1,y.2.2.2.2.2.2.1.2.1,(),(),()),())
else
 some (((),(),true,()),y.2.1,y.2.2.1,(y.2.2.2.1.1,y.2.2.2.1.2.1,(),(),()),y.2.2.2.2.1,y.2.2.2.2.2.1,(y.2.2.2.2.2.2.1.1,y.2.2.2.2.2.2.1.2.1,(),(),()),())
else
 some (((),(),true,()),y.2.1,y.2.2.1,(y.2.2.2.1.1,y.2.2.2.1.2.1,(),(),()),y.2.2.2.2.1,y.2.2.2.2.2.1,(y.2.2.2.2.2.2.1.1,y.2.2.2.2.2.2.1.2.1,(),(),()),())
theorem ai0:aV O (ap (codeOf Tryz.f67) 1 16380) (aX QR Qx qP):=cn adQ (by kernel_rfl) ag fun y=>by kernel_rfl
abbrev i67:Shape:=⟨[am 0],[],76⟩
abbrev xF:Shape:=⟨[ax 2 2 0,ar 3],[bv 5000130 .need 2 2,bv 5000131 .entry 2 3,aw 2 [ah,ah,.own 5000130,.own 5000131]],76⟩
noncomputable def f67(a:i67.J):Option xF.J:=
 bif(decide ((a.1.1.length:Int)>(4000:Int))) then
 some (((),false,()),([]:List bD),([]:List aB),(([]:B),([]:B),(),(),()),())
else
(f114 ((a.1.1,([10]:B),()),())).bind fun b=>
(f114 ((b.1.2.1,([10]:B),()),())).bind fun c=>
(f116 ((c.1.1,([32]:B),()),())).bind fun d=>
 bif((d.1.1.length:Int) !=(3:Int)) then
 some (((),false,()),([]:List bD),([]:List aB),(([]:B),([]:B),(),(),()),())
else
(aS d.1.1 (1:Int)).bind fun e=>
(aS d.1.1 (2:Int)).bind fun f=>
(f117 ((c.1.2.1,()),())).bind fun g=>
 bif(!g.1.2.2.1) then
 some (((),false,()),([]:List bD),([]:List aB),(([]:B),([]:B),(),(),()),())
else
(f118 ((g.1.2.1,()),())).bind fun h=>
(qP ((a.1.1,(),(),h.1.2.1,()),([]:List bD),([]:List aB),(([]:B),([]:B),(),(),()),g.2.1,h.2.1,(e,f,(),(),()),())).bind fun i=>
 bif i.1.2.2.1 then
 some (((),false,()),([]:List bD),([]:List aB),(([]:B),([]:B),(),(),()),())
else
 some (((),true,()),i.2.2.2.2.1,i.2.2.2.2.2.1,(i.2.2.2.2.2.2.1.1,i.2.2.2.2.2.2.1.2.1,(),(),()),())
noncomputable def ads:aI:=aL af Tryz.f67 i67 xF [] f67
theorem aw6:aF O 67 ads:=aM adQ Tryz.func67 (by kernel_rfl) (a7 ai0 ag) (fun y=>by kernel_rfl) fun a=>by kernel_rfl
theorem Fo{aE:Type}(f:aE->B):∀{xs:List aE} {x:aE},x∈xs->(f x).length<=(xs.flatMap f).length:=by
 intro xs;induction xs with
 |nil=>intro x h;cases h
 |cons y bm ih=>
  intro x h;rw[List.flatMap_cons,dx];rcases bR.1 h with rfl|h
  ·omega
  ·have:=ih h;omega
theorem ajF{e:aB}(h:e9 e=true):e.path.length<=(et e).length/\e.text.length<=(et e).length:=by
 have hc:=Gf (Q9 h []);rw[List.append_nil] at hc;exact⟨hc.1,hc.2.1⟩
theorem y4(p:aJ):(dJ p).length<=(bJ p).length/\p.name.length+p.a6.length+(p.bl.flatMap cM++10::dt p.bI).length+10<=(dJ p).length+10/\(dt p.bI).length<=(dJ p).length/\(p.bl.flatMap cM).length<=(dJ p).length:=by
 have h1:(bJ p).length=(e_ p).length+1+(dJ p).length:=by rw[vU];simp;omega
 have h2:(dJ p).length=(ew p).length+1+(jh p).length:=by rw[vL];simp;omega
 have h3:(ew p).length=4+1+(p.name.length+1+p.a6.length):=by unfold ew;simp[lY,iX];omega
 have aD:(jh p).length=(p.bl.flatMap cM).length+1+(dt p.bI).length:=by unfold jh;rw[dx,cY];omega
 have bn:(p.bl.flatMap cM++10::dt p.bI).length=(jh p).length:=rfl;omega
theorem JX{p:aJ}(hk:cx p=true)(hl:(bJ p).length<=4000):jW p:=by
 obtain⟨h1,h2,h3,aD,_,cl⟩:=nn hk;obtain⟨q1,q2,dU,ni⟩:=y4 p;refine⟨by show p.name.length<=2097152;omega,by show p.a6.length<=2097152;omega,⟨by show p.bl.length<=2097152;omega,fun n hn=>?_⟩,⟨by show p.bI.length<=2097152;have:=j2 cl;omega,fun e he=>?_⟩⟩
 ·have h:=Fo cM hn;have jc:(cM n).length=(cZ n).length+6:=by unfold cM;simp
  have hp:n.name.length+n.a6.length<=(cZ n).length:=by unfold cZ;simp
  exact⟨by show n.name.length<=2097152;omega,by show n.a6.length<=2097152;omega⟩
 ·have h:=Fo et he;have h:(et e).length<=(dt p.bI).length:=h;have:=ajF (vp cl e he);exact⟨by show e.path.length<=2097152;omega,by show e.text.length<=2097152;omega⟩
abbrev sG(p:aJ):xF.J:=(((),(true,())),(p.bl,(p.bI,((p.name,(p.a6,((),((),())))),()))))
abbrev Ow:xF.J:=(((),(false,())),(([]:List bD),(([]:List aB),((([]:B),(([]:B),((),((),())))),()))))
theorem aqk{p q:aJ}(h:sG p=sG q):p=q:=by
 obtain⟨a,b,c,d⟩:=p;obtain⟨c',bS,fM,aeu⟩:=q;simp only[sG,Prod.mk.injEq] at h;obtain⟨_,rfl,rfl,⟨rfl,rfl,_⟩,_⟩:=h;rfl
theorem Fe{p:aJ}(hk:cx p=true)(hl:(bJ p).length<=4000):f67 ((bJ p,()),())=some (sG p):=by
 have hb:=JX hk hl;obtain⟨h1,h2,h3,aD,_,cl⟩:=nn hk;obtain⟨q1,q2,dU,ni⟩:=y4 p;have d:decide (((bJ p).length:Int)>4000)=false:=decide_eq_false (by omega)
 have c1:=nD 10 (bJ p) (by unfold aA;omega)
 have a1:hQ 10 (bJ p)=dJ p:=by unfold hQ;rw[alr]
 rw[a1] at c1;have c1:f114 ((bJ p,(([10]:B),())),())=_:=c1;have c2:=nD 10 (dJ p) (by unfold aA;omega)
 have a2:hQ 10 (dJ p)=jh p:=by unfold hQ;rw[Rz hk]
 have a3:hS 10 (dJ p)=ew p:=by unfold hS;rw[Rz hk]
 rw[a2,a3] at c2;have c2:f114 ((dJ p,(([10]:B),())),())=_:=c2;have bV:(ew p).length<=(dJ p).length:=by rw[vL];simp
 have c3:=Qt (ew p) (by omega)
 rw[Fx hk] at c3;have je:(((([iX,p.name,p.a6]:List B).length:Nat):Int) !=3)=false:=rfl;have ep:aS [iX,p.name,p.a6] (1:Int)=some p.name:=rfl;have gr:aS [iX,p.name,p.a6] (2:Int)=some p.a6:=rfl;have du:=aeT p.bl (dt p.bI) h3 (by omega) (by omega)
 have du:f117 ((jh p,()),())=_:=du;have ht:=ae3 p.bI cl (by omega) hb.2.2.2
 have c6:=zb (((p.name,(p.a6,(p.bl,(p.bI,())))),()),()) hb;have c6:f55 (((p.name,(p.a6,(p.bl,(p.bI,())))),()),())=some ((cx p,()),()):=c6;have qF:=FB p hb;rw[hk] at c6 qF;simp only[f67,d,ak,c1,c2,c3,je,ep,gr,du,ht,Y,bu,bK,qP,ad,c6,qF,beq_self_eq_true]
theorem ae1(s:B)(hs:aA s.length):f67 ((s,()),())=some Ow\/∃p:aJ,f67 ((s,()),())=some (sG p)/\cx p=true/\bJ p=s/\s.length<=4000:=by
 by_cases hl:s.length<=4000
 ·have d:decide ((s.length:Int)>4000)=false:=decide_eq_false (by omega)
  have aBD:∀t:B,(hS 10 t).length<=t.length:=fun t=>by
   unfold hS;cases h:dC 10 t with
   |none=>exact Nat.le_refl _
   |some q=>obtain⟨x,y⟩:=q;have:=(iT h).1;show x.length<=_;rw[this];simp
  have aek:∀t:B,(hQ 10 t).length<=t.length:=fun t=>by
   unfold hQ;cases h:dC 10 t with
   |none=>show 0<=_;omega
   |some q=>obtain⟨x,y⟩:=q;have:=(iT h).1;show y.length<=_;rw[this];simp;omega
  have c1:=nD 10 s hs;have c1:f114 ((s,(([10]:B),())),())=_:=c1;have ed:=aek s;generalize hQ 10 s=b at c1 ed;have c2:=nD 10 b (by unfold aA;omega)
  have c2:f114 ((b,(([10]:B),())),())=_:=c2;have fU:=aek b;have u':=aBD b;generalize hQ 10 b=r at c2 fU;generalize hS 10 b=aa at c2 u';have c3:=Qt aa (by omega)
  have m3:∀w,w∈bO 32 aa->w.length<=aa.length:=fun w hw=>by
   rw[<-yX 32 aa.length aa (Nat.le_refl _)] at hw;exact qK 32 _ aa w hw
  generalize bO 32 aa=ws at c3 m3;cases je:(((ws.length:Nat):Int) !=3) with
  |true=>
   refine .inl ?_
   simp only[f67,d,ak,c1,c2,c3,je,ad,Y]
  |false=>
   obtain⟨U,bX,vs,rfl⟩:∃U bX vs,ws=[U,bX,vs]:=by
    have:ws.length=3:=by simp at je;omega
    match ws,this with
    |[a,b,c],_=>exact⟨a,b,c,rfl⟩
   have ep:aS [U,bX,vs] (1:Int)=some bX:=rfl;have gr:aS [U,bX,vs] (2:Int)=some vs:=rfl;have aG:=m3 bX (by simp)
   have aK:=m3 vs (by simp)
   obtain⟨e4,ok,ns,du,cU,fA,h9⟩:=aeU r (by omega)
   obtain⟨MC,t,ht,yz,Oc⟩:=ae4 e4 (by omega)
   cases ok with
   |false=>
    refine .inl ?_
    simp only[f67,d,ak,c1,c2,c3,je,ep,gr,du,ad,Y,bK]
   |true=>
    cases MC with
    |false=>
     refine .inl ?_
     simp only[f67,d,ak,c1,c2,c3,je,ep,gr,du,ht,ad,Y,bK,bu,qP]
    |true=>
     have hb:jW ⟨bX,vs,ns,t⟩:=⟨by show bX.length<=2097152;omega,by show vs.length<=2097152;omega,⟨by show ns.length<=2097152;omega,fun n hn=>by have:=h9 n hn;exact⟨by show n.name.length<=2097152;omega,by show n.a6.length<=2097152;omega⟩⟩,⟨by show t.length<=2097152;omega,fun e he=>by have:=Oc e he;exact⟨by show e.path.length<=2097152;omega,by show e.text.length<=2097152;omega⟩⟩⟩
     have c6:=zb (((bX,(vs,(ns,(t,())))),()),()) hb;have c6:f55 (((bX,(vs,(ns,(t,())))),()),())=some ((cx ⟨bX,vs,ns,t⟩,()),()):=c6;have qF:=FB ⟨bX,vs,ns,t⟩ hb;have qF:f36 (((bX,(vs,(ns,(t,())))),()),())=_:=qF;cases hk:cx ⟨bX,vs,ns,t⟩ with
     |false=>
      rw[hk] at c6;refine .inl ?_
      simp only[f67,d,ak,c1,c2,c3,je,ep,gr,du,ht,ad,Y,bK,bu,qP,c6]
     |true=>
      rw[hk] at c6 qF;cases he:bJ ⟨bX,vs,ns,t⟩==s with
      |false=>
       refine .inl ?_
       simp only[f67,d,ak,c1,c2,c3,je,ep,gr,du,ht,ad,Y,bK,bu,qP,c6,qF,he]
      |true=>
       refine .inr ⟨⟨bX,vs,ns,t⟩,?_,hk,eq_of_beq he,hl⟩;simp only[f67,d,ak,c1,c2,c3,je,ep,gr,du,ht,ad,Y,bK,bu,qP,c6,qF,he]
 ·have d:decide ((s.length:Int)>4000)=true:=decide_eq_true (by omega)
  refine .inl ?_
  simp only[f67,d,ad]
def acv(s:B)(p:aJ):Prop:=cx p=true/\bJ p=s/\s.length<=4000
def aBO(D:Option aJ):xF.J:=match D with|some p=>sG p|none=>Ow
theorem ahe(s:B)(hs:aA s.length):∃D:Option aJ,f67 ((s,()),())=some (aBO D)/\lS D (acv s):=by
 rcases ae1 s hs with h|⟨p,h,h1,h2,h3⟩
 ·refine⟨none,h,fun p=>⟨fun hp=>(by cases hp),fun⟨q1,q2,dU⟩=>?_⟩⟩
  subst q2;have:=Fe q1 dU;rw[h] at this;simp only[bH,Prod.mk.injEq] at this;exact absurd this.1.2.1 (by decide)
 ·refine⟨some p,h,fun q=>⟨fun hp=>?_,fun⟨q1,q2,dU⟩=>?_⟩⟩
  ·cases hp;exact⟨h1,h2,h3⟩
  ·subst q2;have:=Fe q1 dU;rw[h] at this;rw[aqk (Option.some.inj this)]
noncomputable abbrev aAg:a8:=[(114,xp),(115,DN)]
theorem adR:aT O (aZ af aAg):=aY ⟨Dn,KZ,⟨⟩⟩
abbrev U7:Shape:=⟨[am 2,am 3,ar 4,am 6,ar 7,aj 8,ar 9],[],35⟩
abbrev UR:List aR:=[(.norm,⟨[am 2,am 3,ar 4,am 6,aj 8,ar 28],[],35⟩)]
noncomputable def wz(y:U7.J):Option (aH UR):=
 bif(!(!y.1.2.2.2.2.1)) then
 some ((y.1.1,y.1.2.1,y.1.2.2.1,y.1.2.2.2.1,y.1.2.2.2.2.2.1,(!y.1.2.2.2.2.2.2.1),()),())
else
 some ((y.1.1,y.1.2.1,y.1.2.2.1,y.1.2.2.2.1,y.1.2.2.2.2.2.1,true,()),())
theorem aps:aV O (ap (codeOf Tryz.f66) 1 60) (aX U7 UR wz):=cn adR (by kernel_rfl) ag fun y=>by kernel_rfl
abbrev i66:Shape:=⟨[am 0],[],35⟩
abbrev abR:Shape:=⟨[am 2,am 3,ar 4],[],35⟩
noncomputable def f66(a:i66.J):Option abR.J:=
(f114 ((a.1.1,([10]:B),()),())).bind fun b=>
(f115 ((b.1.1,(b.1.2.1.length:Int),()),())).bind fun c=>
(wz ((([]:B),([]:B),false,b.1.2.1,b.1.2.2.1,c.1.1,c.1.2.1,()),())).bind fun d=>
 bif d.1.2.2.2.2.2.1 then
 some ((([]:B),([]:B),false,()),())
else
(bq d.1.2.2.2.1 (0:Int) d.1.2.2.2.2.1).bind fun e=>
(bq d.1.2.2.2.1 d.1.2.2.2.2.1 (d.1.2.2.2.1.length:Int)).bind fun f=>
 some ((e,f,true,()),())
noncomputable def NL:aI:=aL af Tryz.f66 i66 abR [] f66
theorem abj:aF O 66 NL:=aM adR Tryz.func66 (by kernel_rfl) (a7 aps ag) (fun y=>by kernel_rfl) fun a=>by kernel_rfl
theorem ams(t:B)(b:UInt8):db (t++[b])=en (db t) b:=by unfold db;rw[List.foldl_append];rfl
theorem amq:∀{s:B},s.all cR=true->s≠[]->hN s=false->s.length≠1->1<=db s:=by
 intro s aa hn hl h1;have key:∀(s:B) (n:Int),s.all cR=true->1<=n->1<=s.foldl en n:=by
  intro s;induction s with
  |nil=>intro n _ h;exact h
  |cons b s ih=>
   intro n aa hn;simp only[List.all_cons,bz] at aa;have hb:=jf aa.1;refine ih _ aa.2 ?_
   unfold en;omega
 match s,aa,hn,hl,h1 with
 |[],_,hn,_,_=>exact absurd rfl hn
 |[b],_,_,_,h1=>exact absurd rfl h1
 |b::c::r,aa,_,hl,_=>
  have hl:((b.toNat:Int)==48)=false:=hl;have hb:=aa;rw[List.all_cons,bz] at hb;have fk:=jf hb.1;have hne:(b.toNat:Int)≠48:=by simpa using hl
  show 1<=(c::r).foldl en (en 0 b);exact key _ _ hb.2 (by unfold en;omega)
theorem ah5:∀(k:Nat) (s:B),s.length=k->s.all cR=true->s≠[]->hN s=false->∃n:Nat,db s=(n:Int)/\Lib.decDigits n=s:=by
 intro k;induction k with
 |zero=>intro s h _ hn _;exact absurd (List.length_eq_zero_iff.1 h) hn
 |succ k ih=>
  intro s h aa hn hl;obtain⟨t,b,rfl⟩:∃t b,s=t++[b]:=⟨s.dropLast,s.getLast hn,(List.dropLast_concat_getLast hn).symm⟩;have hk:t.length=k:=by simpa using h
  rw[List.all_append,bz] at aa;have hb1:cR b=true:=by have:=aa.2;simpa using this
  have fk:=jf hb1;cases t with
  |nil=>
   refine⟨b.toNat-48,?_,?_⟩
   ·show en 0 b=_;unfold en;omega
   ·rw[Lib.decDigits,dif_pos (by omega)]
    show [_]=[b];congr 1
    apply UInt8.toNat_inj.1;rw[UInt8.toNat_ofNat'];omega
  |cons c r=>
   have hlt:hN (c::r)=false:=by
    cases r with
    |nil=>rfl
    |cons d r=>exact hl
   obtain⟨n,h1,h2⟩:=ih (c::r) hk aa.1 (by simp) hlt
   have hp:1<=n:=by
    cases r with
    |nil=>
     have qy:((c.toNat:Int)==48)=false:=hl;have qy:(c.toNat:Int)≠48:=by simpa using qy
     have hc:=jf (by have:=aa.1;simpa using this:cR c=true)
     have:en 0 c=(n:Int):=h1;unfold en at this;omega
    |cons d r=>
     have:=amq aa.1 (by simp) hlt (by simp)
     omega
   refine⟨n*10+(b.toNat-48),?_,?_⟩
   ·rw[ams,h1];unfold en;omega
   ·rw[Lib.decDigits,dif_neg (by omega),show(n*10+(b.toNat-48))/10=n by omega,h2,show(n*10+(b.toNat-48))%10=b.toNat-48 by omega]
    congr 2
    apply UInt8.toNat_inj.1;rw[UInt8.toNat_ofNat'];omega
theorem Gi{m:Int}{s:B}(h:e' m s=true):∃n:Nat,db s=(n:Int)/\s=Lib.itoa (n:Int)/\(n:Int)<=m:=by
 have h0:=h;unfold e' at h;simp only[bz,dW,Bool.not_eq_true'] at h;obtain⟨⟨⟨⟨h1,h2⟩,h3⟩,_⟩,bn⟩:=h;obtain⟨n,e1,e2⟩:=ah5 s.length s rfl h1 (by simpa using h2) h3
 exact⟨n,e1,by rw[qW,e2],by omega⟩
def ji(s:B):Option (B×B):=match dC 10 s with
 |some (bC,r)=>bif e' (r.length:Int) bC then some (r.take (db bC).toNat,r.drop (db bC).toNat) else none
 |none=>none
theorem Fq(s:B)(hs:aA s.length):f66 ((s,()),())=some ((((ji s).getD ([],[])).1,(((ji s).getD ([],[])).2,((ji s).isSome,()))),()):=by
 have c1:=nD 10 s hs;have c1:f114 ((s,(([10]:B),())),())=_:=c1;cases aC:dC 10 s with
 |none=>
  have hz:ji s=none:=by unfold ji;rw[aC]
  have er:hS 10 s=s:=by unfold hS;rw[aC]
  have n1:=y_ s ((hQ 10 s).length:Int) hs;rw[aC,er] at c1;simp only[f66,c1,Y,n1,wz,Option.isSome_none,bK,bu,ak,ad,hz];rfl
 |some q=>
  obtain⟨bC,r⟩:=q;have hl:=(iT aC).1;have hl:s.length=bC.length+1+r.length:=by rw[hl];simp;omega
  have er:hS 10 s=bC:=by unfold hS;rw[aC]
  have hB:hQ 10 s=r:=by unfold hQ;rw[aC]
  rw[aC,er,hB] at c1;have n1:=y_ bC (r.length:Int) (by unfold aA at hs ⊢;omega)
  have hz:ji s=bif e' (r.length:Int) bC then some (r.take (db bC).toNat,r.drop (db bC).toNat) else none:=by unfold ji;rw[aC]
  cases hg:e' (r.length:Int) bC with
  |false=>
   rw[hg] at hz n1;simp only[f66,c1,Y,n1,wz,Option.isSome_some,bK,bu,ak,ad,hz];rfl
  |true=>
   rw[hg] at hz n1;obtain⟨n,h1,_,h3⟩:=Gi hg;rw[h1] at hz n1;have s1:bq r 0 (n:Int)=some (r.take n):=gx (by omega)
   have s2:bq r (n:Int) ((r.length:Nat):Int)=some (r.drop n):=fC (by omega)
   simp only[f66,c1,Y,n1,wz,Option.isSome_some,bK,bu,ak,ad,s1,s2,hz];rfl
theorem FI{s x y:B}(h:ji s=some (x,y)):s=dz x++y/\y.length<s.length:=by
 unfold ji at h;cases aC:dC 10 s with
 |none=>rw[aC] at h;cases h
 |some q=>
  obtain⟨bC,r⟩:=q;rw[aC] at h;have hs:=(iT aC).1;have h:(bif e' (r.length:Int) bC then some (r.take (db bC).toNat,r.drop (db bC).toNat) else none)=some (x,y):=h
  cases hg:e' (r.length:Int) bC with
  |false=>rw[hg] at h;cases h
  |true=>
   rw[hg] at h;obtain⟨n,h1,h2,h3⟩:=Gi hg;simp only[ad,bH,Prod.mk.injEq,h1,Int.toNat_natCast] at h;obtain⟨rfl,rfl⟩:=h;have hlen:(r.take n).length=n:=by simp;omega
   refine⟨?_,?_⟩
   ·unfold dz;rw[hlen,<-h2,hs];simp
   ·rw[hs];simp;omega
theorem aiT(x y:B)(iA:x.length<1000000000):ji (dz x++y)=some (x,y):=by
 unfold ji;rw[QQ];obtain⟨g1,g2⟩:=Hd (n:=x.length) (m:=((x++y).length:Int)) (by simp;omega) iA
 show(bif e' ((x++y).length:Int) (Lib.itoa (x.length:Int)) then _ else _)=_
 rw[g1,g2];simp
noncomputable abbrev aAy:a8:=[(43,ye),(66,NL),(67,ads)]
theorem NZ:aT O (aZ af aAy):=aY ⟨D1,abj,aw6,⟨⟩⟩
abbrev Sf:Shape:=⟨[ax 2 2 0,bd 4 3000256,am 6,am 7,ar 8],[bv 5000128 .pack 2 0,aw 2 [.own 5000128],bc 3000256 .pack 4 0],48⟩
abbrev RX:List aR:=[(.norm,⟨[ax 2 2 0,bd 4 3000256,am 6,am 7,ar 26],[bv 5000128 .pack 2 0,aw 2 [.own 5000128],bc 3000256 .pack 4 0],48⟩)]
noncomputable def qZ(y:Sf.J):Option (aH RX):=
 bif(!(!y.1.2.2.2.2.1)) then
 some (((),(),y.1.2.2.1,y.1.2.2.2.1,((y.2.2.2.1.length:Int)==(5:Int)),()),y.2.1,((),()),y.2.2.2.1,())
else
 some (((),(),y.1.2.2.1,y.1.2.2.2.1,true,()),y.2.1,((),()),y.2.2.2.1,())
theorem akX:aV O (ap (dk (ap (codeOf Tryz.f35) 1 60)) 120 3860) (aX Sf RX qZ):=cn NZ (by kernel_rfl) ag fun y=>by kernel_rfl
abbrev Cg:Shape:=⟨[ax 2 2 0,bd 4 3000256,am 5],[bv 5000128 .pack 2 0,aw 2 [.own 5000128],bc 3000256 .pack 4 0],48⟩
abbrev JU:List aR:=[(.ret,⟨[ax 2 2 0,ar 3],[bv 5000128 .pack 2 0,aw 2 [.own 5000128]],48⟩),(.exit 0,⟨[ax 2 2 0,bd 4 3000256],[bv 5000128 .pack 2 0,aw 2 [.own 5000128],bc 3000256 .pack 4 0],48⟩)]
noncomputable def pT(y:Cg.J):bQ Cg JU:=
 bif(!(y.1.2.2.1==([]:B))) then
(f66 ((y.1.2.2.1,()),())).bind fun a=>
(qZ (((),(),a.1.1,a.1.2.1,a.1.2.2.1,()),y.2.1,((),()),y.2.2.2.1,())).bind fun b=>
 bif b.1.2.2.2.2.1 then
 some (.inr (.inl (((),false,()),([]:List aJ),((),()),())))
else
(f67 ((b.1.2.2.1,()),())).bind fun c=>
 bif(!c.1.2.1) then
 some (.inr (.inl (((),false,()),([]:List aJ),((),()),())))
else
(cm 80 b.2.2.2.1 ([(aJ.mk c.2.2.2.1.1 c.2.2.2.1.2.1 c.2.1 c.2.2.1)]:List aJ)).bind fun d=>
 some (.inl (((),(),b.1.2.2.2.1,()),b.2.1,((),()),d,()))
else
 some (.inr (.inr (((),(),()),y.2.1,((),()),y.2.2.2.1,())))
noncomputable def wv:Cg.J->Option (aH JU):=bA pT
theorem apC:aV O (ap (codeOf Tryz.f35) 1 60) (aX Cg JU wv):=bT NZ (by kernel_rfl) (a7 akX ag) fun y=>by kernel_rfl
abbrev i35:Shape:=⟨[am 0],[],48⟩
abbrev xI:Shape:=⟨[ax 2 2 0,ar 3],[bv 5000128 .pack 2 0,aw 2 [.own 5000128]],48⟩
noncomputable def f35(a:i35.J):Option xI.J:=
(wv (((),(),a.1.1,()),([]:List aJ),((),()),([]:List aJ),())).bind fun b=>
(match b with
|.inl c=>
 some (((),c.1.2.1,()),c.2.1,((),()),())
|.inr d=>
(f43 (((d.2.2.2.1,()),()),())).bind fun e=>
 bif(!e.1.1) then
 some (((),false,()),([]:List aJ),((),()),())
else
 some (((),true,()),d.2.2.2.1,((),()),()))
noncomputable def NP:aI:=aL af Tryz.f35 i35 xI [] f35
theorem abn:aF O 35 NP:=aM NZ Tryz.func35 (by kernel_rfl) (a7 apC ag) (fun y=>by kernel_rfl) fun a=>by kernel_rfl
noncomputable abbrev aAL:a8:=[(35,NP)]
theorem aBa:aT O (aZ af aAL):=aY ⟨abn,⟨⟩⟩
abbrev i14:Shape:=⟨[ck 0 [ah,ah]],[],17⟩
abbrev Ec:Shape:=⟨[ar 2],[],17⟩
noncomputable def f14(a:i14.J):Option Ec.J:=
(f35 ((a.1.1.1,()),())).bind fun b=>
 bif b.1.2.1 then
 some (((a.1.1.2.1==([]:B)),()),())
else
 some ((false,()),())
noncomputable def qC:aI:=aL af Tryz.f14 i14 Ec [] f14
theorem xy:aF O 14 qC:=aM aBa Tryz.func14 (by kernel_rfl) ag (fun y=>by kernel_rfl) fun a=>by kernel_rfl
abbrev qd(ps:List aJ):Prop:=∀p,p∈ps->cx p=true/\(bJ p).length<=4000
def mU(s:B)(ps:List aJ):Prop:=eY ps=true/\cK ps=s/\qd ps
abbrev Ov(ps:List aJ):xI.J:=(((),(true,())),(ps,(((),()),())))
abbrev NF:xI.J:=(((),(false,())),(([]:List aJ),(((),()),())))
def azL(D:Option (List aJ)):xI.J:=match D with|some ps=>Ov ps|none=>NF
theorem tc{ps:List aJ}(h:qd ps)(hl:ps.length<=6):fS ps/\ko ps:=by
 refine⟨⟨by show ps.length<=2097152;omega,fun p hp=>JX (h p hp).1 (h p hp).2⟩,fun p hp=>?_⟩
 obtain⟨hk,aC⟩:=h p hp;obtain⟨q1,q2,dU,ni⟩:=y4 p;refine⟨by omega,fun n hn=>?_⟩
 have h:=Fo cM hn;have jc:(cM n).length=(cZ n).length+6:=by unfold cM;simp
 have hp:n.name.length+n.a6.length<=(cZ n).length:=by unfold cZ;simp
 omega
theorem Gg(p:aJ)(ps:List aJ):cK (p::ps)=dz (bJ p)++cK ps:=by unfold cK;rw[List.flatMap_cons]
theorem apa:∀(m:Nat) (s:B) (ps:List aJ),s.length<=m->m<=1000000000->ps.length<=5->
  wv (((),((),(s,()))),(([]:List aJ),(((),()),(ps,()))))=some (.inl NF)\/
  ∃cg:List aJ,wv (((),((),(s,()))),(([]:List aJ),(((),()),(ps,()))))=some (.inr (((),((),())),(([]:List aJ),(((),()),(ps++cg,())))))/\cK cg=s/\qd cg/\(ps++cg).length<=5:=by
 intro m;induction m with
 |zero=>
  intro s ps hs _ hl;have:s=[]:=List.length_eq_zero_iff.1 (by omega)
  subst this;exact .inr ⟨[],by rw[List.append_nil];exact cC rfl,rfl,fun p hp=>(by cases hp),by simpa using hl⟩
 |succ m ih=>
  intro s ps hs hm hl;cases s with
  |nil=>exact .inr ⟨[],by rw[List.append_nil];exact cC rfl,rfl,fun p hp=>(by cases hp),by simpa using hl⟩
  |cons b iR=>
   have hne:((b::iR)==([]:B))=false:=rfl;generalize e5:b::iR=s at hs hne;have z:=Fq s (by unfold aA;omega)
   cases hz:ji s with
   |none=>
    rw[hz] at z;refine .inl (cC ?_);simp only[pT,hne,bK,ad,z,Y,Option.isSome_none,qZ,bu,ak]
   |some q=>
    obtain⟨x,y⟩:=q;obtain⟨aG,aK⟩:=FI hz;rw[hz] at z;have z:f66 ((s,()),())=some ((x,(y,(true,()))),()):=z;by_cases bn:ps.length=5
    ·refine .inl (cC ?_);have d:(((ps.length:Nat):Int)==5)=true:=by rw[beq_iff_eq];omega
     simp only[pT,hne,bK,ad,z,Y,qZ,bu,ak,d]
    ·have d:(((ps.length:Nat):Int)==5)=false:=by rw[beq_eq_false_iff_ne];omega
     have hx:x.length<=s.length:=by rw[aG];unfold dz;simp;omega
     obtain⟨D,g1,g2⟩:=ahe x (by unfold aA;omega)
     cases D with
     |none=>
      have g1:f67 ((x,()),())=some Ow:=g1;refine .inl (cC ?_);simp only[pT,hne,bK,ad,z,Y,qZ,bu,ak,d,g1]
     |some p=>
      have g1:f67 ((x,()),())=some (sG p):=g1;obtain⟨iS,jx,p3⟩:=(g2 p).1 rfl;have fJ:cm 80 ps ([(aJ.mk p.name p.a6 p.bl p.bI)]:List aJ)=some (ps++[p]):=dw (by decide) (by unfold aA;simp;omega)
      have st:pT (((),((),(s,()))),(([]:List aJ),(((),()),(ps,()))))=some (.inl (((),((),(y,()))),(([]:List aJ),(((),()),(ps++[p],()))))):=by
       simp only[pT,hne,bK,ad,z,Y,qZ,bu,ak,d,g1,fJ]
      rcases ih y (ps++[p]) (by omega) (by omega) (by simp;omega) with e|⟨cg,e1,e2,bE,dN⟩
      ·exact .inl ((ea st).trans e)
      ·rw[List.append_assoc] at e1 dN;refine .inr ⟨p::cg,(ea st).trans e1,by rw[Gg,e2,jx,<-aG],fun r hr=>?_,dN⟩
       rcases bR.1 hr with rfl|hr
       ·exact⟨iS,by rw[jx];exact p3⟩
       ·exact bE r hr
theorem ao9:∀(cg ps:List aJ),qd cg->ps.length+cg.length<=5->
  wv (((),((),(cK cg,()))),(([]:List aJ),(((),()),(ps,()))))=some (.inr (((),((),())),(([]:List aJ),(((),()),(ps++cg,()))))):=by
 intro cg;induction cg with
 |nil=>intro ps _ _;rw[List.append_nil];exact cC rfl
 |cons p cg ih=>
  intro ps h hl;obtain⟨h1,h2⟩:=h p cj;have hz:=aiT (bJ p) (cK cg) (by omega)
  rw[<-Gg] at hz;have hlen:(cK (p::cg)).length<=30000:=by
   have:=nw (f:=fun p=>dz (bJ p)) (xs:=p::cg) (n:=5000) fun q aC=>by
    have:=(h q aC).2;have:=ku (bJ q).length (by omega)
    show(dz (bJ q)).length<=5000;unfold dz;simp;omega
   have e:(cK (p::cg)).length=((p::cg).flatMap fun p=>dz (bJ p)).length:=rfl
   simp only[cY] at hl this;have cl:(cg.length+1)*5000<=6*5000:=Nat.mul_le_mul_right _ (by omega)
   omega
  have z:=Fq (cK (p::cg)) (by unfold aA;omega)
  rw[hz] at z;have z:f66 ((cK (p::cg),()),())=some ((bJ p,(cK cg,(true,()))),()):=z;have g1:=Fe h1 h2;have hne:(cK (p::cg)==([]:B))=false:=by
   have:=(FI hz).2;cases hx:cK (p::cg) with
   |nil=>rw[hx] at this;simp at this
   |cons b r=>rfl
  have d:(((ps.length:Nat):Int)==5)=false:=by rw[beq_eq_false_iff_ne];simp at hl;omega
  have fJ:cm 80 ps ([(aJ.mk p.name p.a6 p.bl p.bI)]:List aJ)=some (ps++[p]):=dw (by decide) (by unfold aA;simp;simp at hl;omega)
  have st:pT (((),((),(cK (p::cg),()))),(([]:List aJ),(((),()),(ps,()))))=some (.inl (((),((),(cK cg,()))),(([]:List aJ),(((),()),(ps++[p],()))))):=by
   simp only[pT,hne,bK,ad,z,Y,qZ,bu,ak,d,g1,fJ]
  have:=ih (ps++[p]) (fun r hr=>h r (ci _ hr)) (by simp at hl ⊢;omega)
  rw[List.append_assoc] at this;exact(ea st).trans this
theorem PO(s:B)(hs:s.length<=1000000000):∃D:Option (List aJ),f35 ((s,()),())=some (azL D)/\lS D (mU s):=by
 have put:∀ps:List aJ,mU s ps->f35 ((s,()),())=some (Ov ps):=by
  intro ps ⟨h1,h2,h3⟩;subst h2;have hl:ps.length<=5:=(kT h1).2;obtain⟨hb,hv⟩:=tc h3 (by omega)
  have g:=ao9 ps [] h3 (by simpa using hl)
  have e:=za (((ps,()),()),()) hb hv;have e:f43 (((ps,()),()),())=some ((eY ps,()),()):=e;rw[h1] at e;simp only[f35,g,List.nil_append,Y,e,bu,ak]
 have any:f35 ((s,()),())=some NF\/∃ps,f35 ((s,()),())=some (Ov ps)/\mU s ps:=by
  rcases apa s.length s [] (Nat.le_refl _) hs (by decide) with g|⟨cg,g,h1,h2,h3⟩
  ·refine .inl ?_
   simp only[f35,g,Y]
  ·rw[List.nil_append] at g h3;obtain⟨hb,hv⟩:=tc h2 (by omega)
   have e:=za (((cg,()),()),()) hb hv;have e:f43 (((cg,()),()),())=some ((eY cg,()),()):=e;cases hr:eY cg with
   |false=>
    rw[hr] at e;refine .inl ?_
    simp only[f35,g,Y,e,bK,ad]
   |true=>
    rw[hr] at e;refine .inr ⟨cg,?_,hr,h1,h2⟩;simp only[f35,g,Y,e,bu,ak]
 rcases any with h|⟨ps,h,hr⟩
 ·refine⟨none,h,fun p=>⟨fun hp=>(by cases hp),fun hp=>?_⟩⟩
  have:=put p hp;rw[h] at this;simp only[bH,Prod.mk.injEq] at this;exact absurd this.1.2.1 (by decide)
 ·refine⟨some ps,h,fun q=>⟨fun hp=>by cases hp;exact hr,fun hp=>?_⟩⟩
  have:=put q hp;rw[h] at this;simp only[bH,Prod.mk.injEq] at this;rw[this.2.1]
theorem ait(s t:B)(hs:s.length<=1000000000):∃D:Option (List aJ),f14 (((s,(t,())),()),())=some ((D.isSome&&t==[],()),())/\lS D (mU s):=by
 obtain⟨D,h1,h2⟩:=PO s hs;refine⟨D,?_,h2⟩;simp only[f14,h1,Y];cases D<;>rfl
theorem QO{c:UInt8}{k:Nat}{s:B}(h:cp c s):splitN c k s=[s]:=by
 cases k with
 |zero=>rfl
 |succ k=>unfold splitN;rw[aom h]
theorem PU{c:UInt8}{k:Nat}{a b:B}(h:cp c a):splitN c (k+1) (a++c::b)=a::splitN c k b:=by
 show(match dC c (a++c::b) with|some (x,y)=>x::splitN c k y|none=>[a++c::b])=_
 rw[s7 h]
theorem amA(pre mid rest:B):bq (pre++mid++rest) (pre.length:Int) ((pre.length+mid.length:Nat):Int)=some mid:=by
 rw[qV (by omega) (by simp),show pre.length+mid.length=(pre++mid).length by simp,List.take_left' rfl,List.drop_left' rfl]
theorem anW(c:UInt8)(s:B)(hs:s.length<=1000000000):∀(rest mid pre:B) (parts:List B) (k kD:Nat),s=pre++mid++rest->cp c mid->parts.length+k=kD->parts.length<=pre.length->
  ∃(JY:List B) (K8 t:B),vY ((s,((c.toNat:Int),((kD:Int),((),((pre.length:Int),(((pre.length+mid.length:Nat):Int),())))))),(parts,()))=some ((s,((),((K8.length:Int),()))),(JY,()))/\s=K8++t/\JY++[t]=parts++splitN c k (mid++rest)/\JY.length<=K8.length:=by
 intro rest;induction rest with
 |nil=>
  intro mid pre parts k kD h1 h2 h3 aD;rw[List.append_nil] at h1;refine⟨parts,pre,mid,cC ?_,h1,by rw[List.append_nil,QO h2],aD⟩
  have d:decide (((pre.length+mid.length:Nat):Int)<(s.length:Int))=false:=decide_eq_false (by rw[h1];simp)
  simp only[pJ,d,ak]
 |cons b r ih=>
  intro mid pre parts k kD h1 h2 h3 aD;have hl:s.length=pre.length+mid.length+1+r.length:=by rw[h1];simp;omega
  have d:decide (((pre.length+mid.length:Nat):Int)<(s.length:Int))=true:=decide_eq_true (by omega)
  cases k with
  |zero=>
   refine⟨parts,pre,mid++b::r,cC ?_,by rw[h1,List.append_assoc],rfl,aD⟩
   have d2:decide (((parts.length:Nat):Int)<(kD:Int))=false:=decide_eq_false (by omega)
   simp only[pJ,d,d2,ad,ak]
  |succ k=>
   have d2:decide (((parts.length:Nat):Int)<(kD:Int))=true:=decide_eq_true (by omega)
   have hx:aS s ((pre.length+mid.length:Nat):Int)=some b:=by
    rw[cd,h1,List.getElem?_append_right (by simp)]
    simp
   have hw:IntKind.i64.wrap (((pre.length+mid.length:Nat):Int)+1)=((pre.length+mid.length+1:Nat):Int):=b9 (by unfold aA;omega)
   by_cases hb:b=c
   ·subst hb;have aC:(((b.toNat:Nat):Int)==(b.toNat:Int))=true:=by simp
    have hm:bq s (pre.length:Int) ((pre.length+mid.length:Nat):Int)=some mid:=by rw[h1];exact amA pre mid _
    have ha:cm 16 parts ([mid]:List B)=some (parts++[mid]):=dw (by decide) (by unfold aA;simp;omega)
    have hp:(pre++mid++[b]).length=pre.length+mid.length+1:=by simp;omega
    obtain⟨h6,fT,t,g1,g2,g3,g4⟩:=ih [] (pre++mid++[b]) (parts++[mid]) k kD (by rw[h1];simp) (cp.nil b) (by simp;omega) (by rw[hp];simp;omega)
    rw[hp] at g1;refine⟨h6,fT,t,(ea ?_).trans g1,g2,?_,g4⟩
    ·simp only[pJ,d,d2,ad,hx,Y,aC,hm,ha,hw];rfl
    ·rw[g3,PU h2];simp
   ·have aC:(((b.toNat:Nat):Int)==(c.toNat:Int))=false:=by
     rw[beq_eq_false_iff_ne];intro h;exact hb (UInt8.toNat_inj.1 (by omega))
    obtain⟨h6,fT,t,g1,g2,g3,g4⟩:=ih (mid++[b]) pre parts (k+1) kD (by rw[h1];simp) (h2.dh fun x hx=>by rw[List.mem_singleton.1 hx];exact hb) h3 aD
    have hp:pre.length+(mid++[b]).length=pre.length+mid.length+1:=by simp;omega
    rw[hp] at g1;refine⟨h6,fT,t,(ea ?_).trans g1,g2,?_,g4⟩
    ·simp only[pJ,d,d2,ad,hx,Y,aC,ak,hw]
    ·rw[g3];simp
theorem lN(c:UInt8)(s:B)(hs:s.length<=1000000000)(kD:Nat):f73 ((s,((c.toNat:Int),((kD:Int),()))),())=some (((),()),(splitN c kD s,())):=by
 obtain⟨h6,fT,t,g1,g2,g3,g4⟩:=anW c s hs s [] [] [] kD kD rfl (cp.nil c) (by simp) (Nat.le_refl _)
 have g1:vY ((s,((c.toNat:Int),((kD:Int),((),((0:Int),((0:Int),())))))),(([]:List B),()))=_:=g1;have aC:fT.length<=s.length:=by rw[g2];simp
 have e1:bq s (fT.length:Int) ((s.length:Nat):Int)=some t:=by rw[fC aC,g2];simp
 have e2:cm 16 h6 ([t]:List B)=some (h6++[t]):=dw (by decide) (by unfold aA;simp;omega)
 simp only[f73,g1,Y,e1,e2,g3];rfl
noncomputable abbrev avt:a8:=[(192,L0),(218,LV),(225,LS)]
theorem DT:aT O (aZ af avt):=aY ⟨XH,z218,XD,⟨⟩⟩
abbrev AQ:Shape:=⟨[am 0,ax 2 2 0,ar 3,aj 4],[aw 2 [ah,ba,ah]],75⟩
abbrev Ie:List aR:=[(.exit 0,⟨[am 0,ax 2 2 0,ar 3,aj 4],[aw 2 [ah,ba,ah]],75⟩)]
noncomputable def rc(y:AQ.J):bQ AQ Ie:=
 bif(decide (y.1.2.2.2.1<(y.1.1.length:Int))) then
(aS y.1.1 y.1.2.2.2.1).bind fun a=>
 bif((a.toNat:Int) !=(61:Int)) then
(aS y.1.1 y.1.2.2.2.1).bind fun b=>
 bif((b.toNat:Int) !=(62:Int)) then
(aS y.1.1 y.1.2.2.2.1).bind fun c=>
 bif((c.toNat:Int) !=(60:Int)) then
 some (.inl ((y.1.1,(),y.1.2.2.1,(IntKind.i64.wrap (y.1.2.2.2.1+(1:Int))),()),(y.2.1.1,y.2.1.2.1,y.2.1.2.2.1,()),()))
else
 some (.inr ((y.1.1,(),y.1.2.2.1,y.1.2.2.2.1,()),(y.2.1.1,y.2.1.2.1,y.2.1.2.2.1,()),()))
else
 some (.inr ((y.1.1,(),y.1.2.2.1,y.1.2.2.2.1,()),(y.2.1.1,y.2.1.2.1,y.2.1.2.2.1,()),()))
else
 some (.inr ((y.1.1,(),y.1.2.2.1,y.1.2.2.2.1,()),(y.2.1.1,y.2.1.2.1,y.2.1.2.2.1,()),()))
else
 some (.inr ((y.1.1,(),y.1.2.2.1,y.1.2.2.2.1,()),(y.2.1.1,y.2.1.2.1,y.2.1.2.2.1,()),()))
noncomputable def Bh:AQ.J->Option (aH Ie):=bA rc
theorem ane:aV O (ap (codeOf Tryz.f179) 1 28) (aX AQ Ie Bh):=bT DT (by kernel_rfl) ag fun y=>by kernel_rfl
abbrev PY:Shape:=⟨[am 0,ax 2 2 0,ar 3,ax 5 5 0,am 6,aj 7,am 8],[aw 2 [ah,ba,ah],aw 5 [ah,ba,ah]],75⟩
abbrev PR:List aR:=[(.norm,⟨[am 0,ax 2 2 0,ar 3,ax 5 5 0,am 6,aj 7,am 8,ar 58],[aw 2 [ah,ba,ah],aw 5 [ah,ba,ah]],75⟩)]
noncomputable def FO(y:PY.J):Option (aH PR):=
 bif(decide ((y.1.2.2.2.2.1.length:Int)>=(y.1.2.2.2.2.2.2.1.length:Int))) then
(bq y.1.2.2.2.2.1 (0:Int) (y.1.2.2.2.2.2.2.1.length:Int)).bind fun a=>
 some ((y.1.1,(),y.1.2.2.1,(),y.1.2.2.2.2.1,y.1.2.2.2.2.2.1,y.1.2.2.2.2.2.2.1,(a==y.1.2.2.2.2.2.2.1),()),(y.2.1.1,y.2.1.2.1,y.2.1.2.2.1,()),(y.2.2.1.1,y.2.2.1.2.1,y.2.2.1.2.2.1,()),())
else
 some ((y.1.1,(),y.1.2.2.1,(),y.1.2.2.2.2.1,y.1.2.2.2.2.2.1,y.1.2.2.2.2.2.2.1,false,()),(y.2.1.1,y.2.1.2.1,y.2.1.2.2.1,()),(y.2.2.1.1,y.2.2.1.2.1,y.2.2.1.2.2.1,()),())
theorem ahA:aV O (ap (dk (ap (codeOf Tryz.f179) 1 506)) 1012 32402) (aX PY PR FO):=cn DT (by kernel_rfl) ag fun y=>by kernel_rfl
abbrev zX:Shape:=⟨[am 0,ax 2 2 0,ar 3,ax 5 5 0,am 6,aj 7],[aw 2 [ah,ba,ah],aw 5 [ah,ba,ah]],75⟩
abbrev G2:List aR:=[(.exit 2,⟨[am 0,ax 2 2 0,ar 3,ax 5 5 0],[aw 2 [ah,ba,ah],aw 5 [ah,ba,ah]],75⟩)]
noncomputable def vK(y:zX.J):bQ zX G2:=
 bif(decide (y.1.2.2.2.2.2.1<=(3:Int))) then
(f225 ((y.1.2.2.2.2.2.1,()),())).bind fun a=>
(FO ((y.1.1,(),y.1.2.2.1,(),y.1.2.2.2.2.1,y.1.2.2.2.2.2.1,a.1.1,()),(y.2.1.1,y.2.1.2.1,y.2.1.2.2.1,()),(y.2.2.1.1,y.2.2.1.2.1,y.2.2.1.2.2.1,()),())).bind fun b=>
 bif b.1.2.2.2.2.2.2.2.1 then
(bq b.1.2.2.2.2.1 (b.1.2.2.2.2.2.2.1.length:Int) (b.1.2.2.2.2.1.length:Int)).bind fun c=>
 some (.inl ((b.1.1,(),b.1.2.2.1,(),b.1.2.2.2.2.1,(IntKind.i64.wrap (b.1.2.2.2.2.2.1+(1:Int))),()),(b.2.1.1,b.2.1.2.1,b.2.1.2.2.1,()),(b.2.2.1.1,b.1.2.2.2.2.2.1,c,()),()))
else
 some (.inl ((b.1.1,(),b.1.2.2.1,(),b.1.2.2.2.2.1,(IntKind.i64.wrap (b.1.2.2.2.2.2.1+(1:Int))),()),(b.2.1.1,b.2.1.2.1,b.2.1.2.2.1,()),(b.2.2.1.1,b.2.2.1.2.1,b.2.2.1.2.2.1,()),()))
else
 some (.inr ((y.1.1,(),y.1.2.2.1,(),()),(y.2.1.1,y.2.1.2.1,y.2.1.2.2.1,()),(y.2.2.1.1,y.2.2.1.2.1,y.2.2.1.2.2.1,()),()))
noncomputable def Hr:zX.J->Option (aH G2):=bA vK
theorem alf:aV O (ap (codeOf Tryz.f179) 1 506) (aX zX G2 Hr):=bT DT (by kernel_rfl) (a7 ahA ag) fun y=>by kernel_rfl
abbrev i179:Shape:=⟨[am 0],[],75⟩
abbrev YT:Shape:=⟨[ax 2 2 0,ar 3],[aw 2 [ah,ba,ah]],75⟩
noncomputable def f179(a:i179.J):Option YT.J:=
(Bh ((a.1.1,(),false,(0:Int),()),(([]:B),(0:Int),([]:B),()),())).bind fun b=>
(bq b.1.1 (0:Int) b.1.2.2.2.1).bind fun c=>
(bq b.1.1 b.1.2.2.2.1 (b.1.1.length:Int)).bind fun d=>
(Hr ((b.1.1,(),b.1.2.2.1,(),d,(1:Int),()),(b.2.1.1,b.2.1.2.1,b.2.1.2.2.1,()),(c,(0:Int),([]:B),()),())).bind fun e=>
(f192 (((e.2.2.1.1,e.2.2.1.2.1,e.2.2.1.2.2.1,()),()),())).bind fun f=>
 bif f.1.1 then
(f218 (((e.2.2.1.1,e.2.2.1.2.1,e.2.2.1.2.2.1,()),()),())).bind fun g=>
 some (((),(g.1.1==e.1.1),()),(e.2.2.1.1,e.2.2.1.2.1,e.2.2.1.2.2.1,()),())
else
 some (((),false,()),(e.2.2.1.1,e.2.2.1.2.1,e.2.2.1.2.2.1,()),())
noncomputable def _4:aI:=aL af Tryz.f179 i179 YT [] f179
theorem asW:aF O 179 _4:=aM DT Tryz.func179 (by kernel_rfl) (a7 ane (a7 alf ag)) (fun y=>by kernel_rfl) fun a=>by kernel_rfl
theorem anY(s:B)(hs:s.length<=1000000000):∀(t a:B),s=a++t->(∀y,y∈a->fg.contains y=false)->
  ∃c' bw:B,Bh ((s,((),(false,((a.length:Int),())))),((([]:B),((0:Int),(([]:B),()))),()))=some ((s,((),(false,((c'.length:Int),())))),((([]:B),((0:Int),(([]:B),()))),()))/\s=c'++bw/\(∀y,y∈c'->fg.contains y=false)/\(bw=[]\/∃x r,bw=x::r/\fg.contains x=true):=by
 intro t;induction t with
 |nil=>
  intro a h1 h2;refine⟨a,[],cC ?_,h1,h2,.inl rfl⟩;have d:decide (((a.length:Nat):Int)<(s.length:Int))=false:=decide_eq_false (by rw[h1];simp)
  simp only[rc,d,ak]
 |cons b r ih=>
  intro a h1 h2;have hl:s.length=a.length+1+r.length:=by rw[h1];simp;omega
  have d:decide (((a.length:Nat):Int)<(s.length:Int))=true:=decide_eq_true (by omega)
  have hx:aS s (a.length:Int)=some b:=by
   rw[cd,h1,List.getElem?_append_right (by omega)];simp
  have hw:IntKind.i64.wrap (((a.length:Nat):Int)+1)=((a.length+1:Nat):Int):=b9 (by unfold aA;omega)
  cases hb:fg.contains b with
  |true=>
   refine⟨a,b::r,cC ?_,h1,h2,.inr ⟨b,r,rfl,hb⟩⟩;have hc:b=61\/b=60\/b=62:=by simpa[fg] using hb
   rcases hc with rfl|rfl|rfl
   ·have t1:((((61:UInt8).toNat:Nat):Int) !=61)=false:=rfl;simp only[rc,d,ad,hx,Y,t1,ak]
   ·have t1:((((60:UInt8).toNat:Nat):Int) !=61)=true:=rfl;have t2:((((60:UInt8).toNat:Nat):Int) !=62)=true:=rfl;have t3:((((60:UInt8).toNat:Nat):Int) !=60)=false:=rfl;simp only[rc,d,ad,hx,Y,t1,t2,t3,ak]
   ·have t1:((((62:UInt8).toNat:Nat):Int) !=61)=true:=rfl;have t2:((((62:UInt8).toNat:Nat):Int) !=62)=false:=rfl;simp only[rc,d,ad,hx,Y,t1,t2,ak]
  |false=>
   have hc:¬(b=61\/b=60\/b=62):=by
    intro h;rcases h with rfl|rfl|rfl<;>revert hb<;>decide
   have ne:∀k:UInt8,b≠k->(((b.toNat:Nat):Int) !=(k.toNat:Int))=true:=fun k hk=>by
    rw[bne_iff_ne];intro h;exact hk (UInt8.toNat_inj.1 (by omega))
   have t1:(((b.toNat:Nat):Int) !=61)=true:=ne 61 fun h=>hc (.inl h)
   have t2:(((b.toNat:Nat):Int) !=62)=true:=ne 62 fun h=>hc (.inr (.inr h))
   have t3:(((b.toNat:Nat):Int) !=60)=true:=ne 60 fun h=>hc (.inr (.inl h))
   have st:rc ((s,((),(false,((a.length:Int),())))),((([]:B),((0:Int),(([]:B),()))),()))=some (.inl ((s,((),(false,(((a.length+1:Nat):Int),())))),((([]:B),((0:Int),(([]:B),()))),()))):=by
    simp only[rc,d,ad,hx,Y,t1,t2,t3,hw]
   obtain⟨c',bw,g1,g2⟩:=ih (a++[b]) (by rw[h1];simp) (fun y hy=>by
    rcases bo.1 hy with hy|hy
    ·exact h2 y hy
    ·rw[List.mem_singleton.1 hy];exact hb)
   rw[show(a++[b]).length=a.length+1 by simp] at g1
   exact⟨c',bw,(ea st).trans g1,g2⟩
def ju(t:B)(k:Int)(q:Int×B):Int×B:=match eo (eb k) t with|some r=>(k,r)|none=>q
theorem IN(s t bX v:B)(k q:Int)(h:k<=3)(h0:0<=k):
  vK ((s,((),(false,((),(t,(k,())))))),((([]:B),((0:Int),(([]:B),()))),((bX,(q,(v,()))),())))=some (.inl ((s,((),(false,((),(t,(k+1,())))))),((([]:B),((0:Int),(([]:B),()))),((bX,((ju t k (q,v)).1,((ju t k (q,v)).2,()))),())))):=by
 have d:decide (k<=3)=true:=decide_eq_true h;have e:=RH k;have hw:IntKind.i64.wrap (k+1)=k+1:=c5 (by omega) (by omega)
 unfold ju eo;have aa:decide (((t.length:Nat):Int)>=(((eb k).length:Nat):Int))=decide ((eb k).length<=t.length):=by congr 1;apply propext;omega
 simp only[vK,d,ad,e,Y,FO,aa];cases hc:decide ((eb k).length<=t.length) with
 |false=>simp only[ak,Y,Bool.false_and,hw]
 |true=>
  have hle:=of_decide_eq_true hc;have e1:bq t 0 (((eb k).length:Nat):Int)=some (t.take (eb k).length):=gx hle;have e2:bq t (((eb k).length:Nat):Int) ((t.length:Nat):Int)=some (t.drop (eb k).length):=fC hle;simp only[ad,e1,Y,Bool.true_and];cases t.take (eb k).length==eb k with
  |false=>simp only[ak,hw]
  |true=>simp only[ad,e2,Y,hw]
theorem aiN:∀{a c' t bw:B},a++t=c'++bw->(∀y,y∈a->fg.contains y=false)->(∀y,y∈c'->fg.contains y=false)->(t=[]\/∃x r,t=x::r/\fg.contains x=true)->(bw=[]\/∃x r,bw=x::r/\fg.contains x=true)->a=c'/\t=bw:=by
 intro a;induction a with
 |nil=>
  intro c' t bw h h1 h2 h3 aD;cases c' with
  |nil=>exact⟨rfl,h⟩
  |cons b r=>
   have hb:=h2 b cj;rcases h3 with rfl|⟨x,e4,rfl,hx⟩
   ·cases h
   ·have:x=b:=by simp at h;exact h.1
    rw[this,hb] at hx;cases hx
 |cons b a ih=>
  intro c' t bw h h1 h2 h3 aD;cases c' with
  |nil=>
   have hb:=h1 b cj;rcases aD with rfl|⟨x,e4,rfl,hx⟩
   ·cases h
   ·have:b=x:=by simp at h;exact h.1
    rw[<-this,hb] at hx;cases hx
  |cons bS c'=>
   simp only[List.cons_append,List.cons.injEq] at h;obtain⟨rfl,h⟩:=h;obtain⟨e1,e2⟩:=ih h (fun y hy=>h1 y (ci _ hy)) (fun y hy=>h2 y (ci _ hy)) h3 aD
   exact⟨by rw[e1],e2⟩
def fI(t:B):Int×B:=ju t 3 (ju t 2 (ju t 1 (0,[])))
theorem IP(t:B)(k:Int)(q:Int×B)(h:q.2.length<=t.length):(ju t k q).2.length<=t.length:=by
 unfold ju;split
 ·rename_i r hr;exact Rt hr
 ·exact h
theorem T0(t:B):(fI t).2.length<=t.length:=IP t 3 _ (IP t 2 _ (IP t 1 _ (Nat.zero_le _)))
theorem SZ(s:B)(hs:s.length<=2000000):∃(a t:B) (ok:Bool),f179 ((s,()),())=some (((),(ok,())),((a,((fI t).1,((fI t).2,()))),()))/\s=a++t/\(∀y,y∈a->fg.contains y=false)/\(t=[]\/∃x r,t=x::r/\fg.contains x=true):=by
 obtain⟨a,t,g1,h1,h2,h3⟩:=anY s (by omega) s [] rfl (fun y hy=>by cases hy)
 have g1:Bh ((s,((),(false,((0:Int),())))),((([]:B),((0:Int),(([]:B),()))),()))=_:=g1;have hl:s.length=a.length+t.length:=by rw[h1];simp
 have e1:bq s 0 ((a.length:Nat):Int)=some a:=by rw[gx (by omega),h1];simp
 have e2:bq s ((a.length:Nat):Int) ((s.length:Nat):Int)=some t:=by rw[fC (by omega),h1];simp
 have s1:=IN s t a [] 1 0 (by decide) (by decide)
 have s2:=IN s t a (ju t 1 (0,[])).2 2 (ju t 1 (0,[])).1 (by decide) (by decide)
 have h5:=IN s t a (ju t 2 (ju t 1 (0,[]))).2 3 (ju t 2 (ju t 1 (0,[]))).1 (by decide) (by decide)
 have aee:vK ((s,((),(false,((),(t,((3:Int)+1,())))))),((([]:B),((0:Int),(([]:B),()))),((a,((fI t).1,((fI t).2,()))),())))=some (.inr ((s,((),(false,((),())))),((([]:B),((0:Int),(([]:B),()))),((a,((fI t).1,((fI t).2,()))),())))):=by
  have d:decide ((3:Int)+1<=3)=false:=by decide
  simp only[vK,d,ak]
 have g2:Hr ((s,((),(false,((),(t,((1:Int),())))))),((([]:B),((0:Int),(([]:B),()))),((a,((0:Int),(([]:B),()))),())))=some ((s,((),(false,((),())))),((([]:B),((0:Int),(([]:B),()))),((a,((fI t).1,((fI t).2,()))),()))):=
  (ea s1).trans ((ea s2).trans ((ea h5).trans (cC aee)))
 have hv:=T0 t;have bE:=RO (((a,((fI t).1,((fI t).2,()))),()),()) (by show a.length<=2097152;omega) (by show(fI t).2.length<=2097152;omega)
 have dN:=SY ⟨a,(fI t).1,(fI t).2⟩ ⟨by show a.length<=2097152;omega,by show(fI t).2.length<=2097152;omega⟩
 refine⟨a,t,dR ⟨a,(fI t).1,(fI t).2⟩&&cZ ⟨a,(fI t).1,(fI t).2⟩==s,?_,h1,h2,h3⟩;simp only[f179,g1,Y,e1,e2,g2,bE];cases dR ⟨a,(fI t).1,(fI t).2⟩ with
 |false=>rfl
 |true=>
  simp only[ad,dN,Y];rfl
theorem agd(s:B)(hs:s.length<=2000000):∃(n:bD) (ok:Bool),f179 ((s,()),())=some (((),(ok,())),((n.name,(n.kind,(n.a6,()))),()))/\n.name.length<=s.length/\n.a6.length<=s.length:=by
 obtain⟨a,t,ok,h,h1,_⟩:=SZ s hs;have hv:=T0 t;have hl:s.length=a.length+t.length:=by rw[h1];simp
 exact⟨⟨a,(fI t).1,(fI t).2⟩,ok,h,by show a.length<=_;omega,by show(fI t).2.length<=_;omega⟩
theorem agc{n:bD}(h:dR n=true)(hs:(cZ n).length<=2000000):∃ok:Bool,f179 ((cZ n,()),())=some (((),(ok,())),((n.name,(n.kind,(n.a6,()))),())):=by
 obtain⟨a,t,ok,e,h1,h2,h3⟩:=SZ (cZ n) hs;obtain⟨aG,aK⟩:=yP h;have hno:=R' (Fl aG);obtain⟨bX,k,v⟩:=n;have key:∀bw:B,cZ ⟨bX,k,v⟩=bX++bw->(bw=[]\/∃x r,bw=x::r/\fg.contains x=true)->fI bw=(k,v)->∃ok:Bool,f179 ((cZ ⟨bX,k,v⟩,()),())=some (((),(ok,())),((bX,(k,(v,()))),())):=by
  intro bw q1 q2 dU;obtain⟨e1,e2⟩:=aiN (h1.symm.trans q1) h2 hno h3 q2;subst e1 e2;rw[dU] at e;exact⟨ok,e⟩
 rcases aK with⟨hk,hv⟩|⟨hk,hv⟩
 ·have hk:k=0:=hk;have hv:v=[]:=hv;subst hk hv;exact key [] (by unfold cZ eb;simp) (.inl rfl) (by decide)
 ·rcases hk with hk|hk|hk
  ·have hk:k=1:=hk;subst hk;refine key (61::v) (by unfold cZ eb;simp) (.inr ⟨61,v,rfl,by decide⟩) ?_
   have d1:eo (eb 1) (61::v)=some v:=vE [61] v;have d2:eo (eb 2) (61::v)=none:=by unfold eo;cases v<;>simp[eb]
   have d3:eo (eb 3) (61::v)=none:=by unfold eo;simp[eb]
   simp only[fI,ju,d1,d2,d3]
  ·have hk:k=2:=hk;subst hk;refine key (62::61::v) (by unfold cZ eb;simp) (.inr ⟨62,61::v,rfl,by decide⟩) ?_
   have d1:eo (eb 1) (62::61::v)=none:=by unfold eo;simp[eb]
   have d2:eo (eb 2) (62::61::v)=some v:=vE [62,61] v;have d3:eo (eb 3) (62::61::v)=none:=by unfold eo;simp[eb]
   simp only[fI,ju,d1,d2,d3]
  ·have hk:k=3:=hk;subst hk;refine key (60::v) (by unfold cZ eb;simp) (.inr ⟨60,v,rfl,by decide⟩) ?_
   have d1:eo (eb 1) (60::v)=none:=by unfold eo;simp[eb]
   have d2:eo (eb 2) (60::v)=none:=by unfold eo;cases v<;>simp[eb]
   have d3:eo (eb 3) (60::v)=some v:=vE [60] v;simp only[fI,ju,d1,d2,d3]
noncomputable abbrev avs:a8:=[(73,pf),(74,yd),(75,pe)]
theorem xu:aT O (aZ af avs):=aY ⟨ql,D0,z75,⟨⟩⟩
abbrev So:Shape:=⟨[ax 2 2 0,am 3,ar 4,bd 5 3000320,bd 6 3000384],[aw 2 [ah,ba,ba,ah],bc 3000320 .str 5 0,bc 3000384 .str 6 0],110⟩
abbrev R7:List aR:=[(.norm,⟨[ax 2 2 0,am 3,ar 4,bd 5 3000320,bd 6 3000384,ar 18],[aw 2 [ah,ba,ba,ah],bc 3000320 .str 5 0,bc 3000384 .str 6 0],110⟩)]
noncomputable def nu(y:So.J):Option (aH R7):=
(bf y.2.2.2.1.length (0:Int)).bind fun a=>
(y.2.2.2.1[a]?).bind fun b=>
 bif(b==([100,105,114]:B)) then
 some (((),y.1.2.1,y.1.2.2.1,(),(),((y.2.2.2.1.length:Int)==(3:Int)),()),(y.2.1.1,y.2.1.2.1,y.2.1.2.2.1,y.2.1.2.2.2.1,()),y.2.2.1,y.2.2.2.1,())
else
 some (((),y.1.2.1,y.1.2.2.1,(),(),false,()),(y.2.1.1,y.2.1.2.1,y.2.1.2.2.1,y.2.1.2.2.2.1,()),y.2.2.1,y.2.2.2.1,())
theorem ale:aV O (ap (codeOf Tryz.f180) 1 248) (aX So R7 nu):=cn xu (by kernel_rfl) ag fun y=>by kernel_rfl
abbrev Sn:Shape:=⟨[ax 2 2 0,am 3,ar 4,bd 5 3000320,bd 6 3000384],[aw 2 [ah,ba,ba,ah],bc 3000320 .str 5 0,bc 3000384 .str 6 0],110⟩
abbrev R6:List aR:=[(.norm,⟨[ax 2 2 0,am 3,ar 4,bd 5 3000320,bd 6 3000384,ar 39],[aw 2 [ah,ba,ba,ah],bc 3000320 .str 5 0,bc 3000384 .str 6 0],110⟩)]
noncomputable def ow(y:Sn.J):Option (aH R6):=
(bf y.2.2.2.1.length (0:Int)).bind fun a=>
(y.2.2.2.1[a]?).bind fun b=>
 bif(b==([108,105,110,107]:B)) then
 some (((),y.1.2.1,y.1.2.2.1,(),(),((y.2.2.2.1.length:Int)==(3:Int)),()),(y.2.1.1,y.2.1.2.1,y.2.1.2.2.1,y.2.1.2.2.2.1,()),y.2.2.1,y.2.2.2.1,())
else
 some (((),y.1.2.1,y.1.2.2.1,(),(),false,()),(y.2.1.1,y.2.1.2.1,y.2.1.2.2.1,y.2.1.2.2.2.1,()),y.2.2.1,y.2.2.2.1,())
theorem ald:aV O (ap (codeOf Tryz.f180) 1 998) (aX Sn R6 ow):=cn xu (by kernel_rfl) ag fun y=>by kernel_rfl
abbrev QW:Shape:=⟨[ax 2 2 0,am 3,ar 4,bd 5 3000320,bd 6 3000384],[aw 2 [ah,ba,ba,ah],bc 3000320 .str 5 0,bc 3000384 .str 6 0],110⟩
abbrev QC:List aR:=[(.norm,⟨[ax 2 2 0,am 3,ar 4,bd 5 3000320,bd 6 3000384,ar 59],[aw 2 [ah,ba,ba,ah],bc 3000320 .str 5 0,bc 3000384 .str 6 0],110⟩)]
noncomputable def pz(y:QW.J):Option (aH QC):=
(bf y.2.2.2.1.length (0:Int)).bind fun a=>
(y.2.2.2.1[a]?).bind fun b=>
 bif(b==([102,105,108,101]:B)) then
 some (((),y.1.2.1,y.1.2.2.1,(),(),((y.2.2.2.1.length:Int)==(4:Int)),()),(y.2.1.1,y.2.1.2.1,y.2.1.2.2.1,y.2.1.2.2.2.1,()),y.2.2.1,y.2.2.2.1,())
else
 some (((),y.1.2.1,y.1.2.2.1,(),(),false,()),(y.2.1.1,y.2.1.2.1,y.2.1.2.2.1,y.2.1.2.2.2.1,()),y.2.2.1,y.2.2.2.1,())
theorem ai8:aV O (ap (codeOf Tryz.f180) 1 3998) (aX QW QC pz):=cn xu (by kernel_rfl) ag fun y=>by kernel_rfl
abbrev PX:Shape:=⟨[ax 2 2 0,am 3,ar 4,bd 5 3000320,bd 6 3000384,aj 7],[aw 2 [ah,ba,ba,ah],bc 3000320 .str 5 0,bc 3000384 .str 6 0],110⟩
abbrev PQ:List aR:=[(.norm,⟨[ax 2 2 0,am 3,ar 4,bd 5 3000320,bd 6 3000384,aj 7,ar 88],[aw 2 [ah,ba,ba,ah],bc 3000320 .str 5 0,bc 3000384 .str 6 0],110⟩)]
noncomputable def vr(y:PX.J):Option (aH PQ):=
(bf y.2.2.1.length (1:Int)).bind fun a=>
(y.2.2.1[a]?).bind fun b=>
(f75 ((y.1.2.2.2.2.2.1,(0:Int),(IntKind.i64.wrap ((b.length:Int)-(1:Int))),()),())).bind fun c=>
 bif(!(!c.1.1)) then
(bf y.2.2.1.length (1:Int)).bind fun d=>
(y.2.2.1[d]?).bind fun e=>
(aS e y.1.2.2.2.2.2.1).bind fun f=>
 some (((),y.1.2.1,y.1.2.2.1,(),(),y.1.2.2.2.2.2.1,((f.toNat:Int) !=(10:Int)),()),(y.2.1.1,y.2.1.2.1,y.2.1.2.2.1,y.2.1.2.2.2.1,()),y.2.2.1,y.2.2.2.1,())
else
 some (((),y.1.2.1,y.1.2.2.1,(),(),y.1.2.2.2.2.2.1,true,()),(y.2.1.1,y.2.1.2.1,y.2.1.2.2.1,y.2.1.2.2.2.1,()),y.2.2.1,y.2.2.2.1,())
theorem ahz:aV O (ap (codeOf Tryz.f180) 1 63988) (aX PX PQ vr):=cn xu (by kernel_rfl) ag fun y=>by kernel_rfl
abbrev i180:Shape:=⟨[am 0],[],110⟩
abbrev w7:Shape:=⟨[ax 2 2 0,am 3,ar 4],[aw 2 [ah,ba,ba,ah]],110⟩
noncomputable def f180(a:i180.J):Option w7.J:=
(f73 ((a.1.1,(10:Int),(1:Int),()),())).bind fun b=>
 bif(decide ((b.2.1.length:Int)<(2:Int))) then
 some (((),([]:B),false,()),(([]:B),(0:Int),(0:Int),([]:B),()),())
else
(bf b.2.1.length (0:Int)).bind fun c=>
(b.2.1[c]?).bind fun d=>
(f73 ((d,(32:Int),(4:Int),()),())).bind fun e=>
(nu (((),([]:B),false,(),(),()),(([]:B),(0:Int),(0:Int),([]:B),()),b.2.1,e.2.1,())).bind fun f=>
 bif f.1.2.2.2.2.2.1 then
(bf f.2.2.2.1.length (2:Int)).bind fun g=>
(f.2.2.2.1[g]?).bind fun h=>
(bf f.2.2.2.1.length (1:Int)).bind fun i=>
(f.2.2.2.1[i]?).bind fun j=>
(f74 ((j,()),())).bind fun k=>
(bf f.2.2.1.length (1:Int)).bind fun l=>
(f.2.2.1[l]?).bind fun m=>
 some (((),m,true,()),(h,(1:Int),k.1.1,([]:B),()),())
else
(ow (((),f.1.2.1,f.1.2.2.1,(),(),()),(f.2.1.1,f.2.1.2.1,f.2.1.2.2.1,f.2.1.2.2.2.1,()),f.2.2.1,f.2.2.2.1,())).bind fun n=>
 bif n.1.2.2.2.2.2.1 then
(bf n.2.2.2.1.length (1:Int)).bind fun D=>
(n.2.2.2.1[D]?).bind fun p=>
(bf n.2.2.2.1.length (2:Int)).bind fun q=>
(n.2.2.2.1[q]?).bind fun r=>
(bf n.2.2.1.length (1:Int)).bind fun s=>
(n.2.2.1[s]?).bind fun t=>
 some (((),t,true,()),(p,(3:Int),(0:Int),r,()),())
else
(pz (((),n.1.2.1,n.1.2.2.1,(),(),()),(n.2.1.1,n.2.1.2.1,n.2.1.2.2.1,n.2.1.2.2.2.1,()),n.2.2.1,n.2.2.2.1,())).bind fun u=>
 bif u.1.2.2.2.2.2.1 then
(bf u.2.2.2.1.length (3:Int)).bind fun v=>
(u.2.2.2.1[v]?).bind fun w=>
(f74 ((w,()),())).bind fun x=>
(vr (((),u.1.2.1,u.1.2.2.1,(),(),x.1.1,()),(u.2.1.1,u.2.1.2.1,u.2.1.2.2.1,u.2.1.2.2.2.1,()),u.2.2.1,u.2.2.2.1,())).bind fun y=>
 bif y.1.2.2.2.2.2.2.1 then
 some (((),([]:B),false,()),(([]:B),(0:Int),(0:Int),([]:B),()),())
else
(bf y.2.2.2.1.length (2:Int)).bind fun z=>
(y.2.2.2.1[z]?).bind fun A=>
(bf y.2.2.2.1.length (1:Int)).bind fun bx=>
(y.2.2.2.1[bx]?).bind fun C=>
(f74 ((C,()),())).bind fun bk=>
(bf y.2.2.1.length (1:Int)).bind fun E=>
(y.2.2.1[E]?).bind fun aW=>
(bq aW (0:Int) y.1.2.2.2.2.2.1).bind fun G=>
(bf y.2.2.1.length (1:Int)).bind fun H=>
(y.2.2.1[H]?).bind fun I=>
(bq I (IntKind.i64.wrap (y.1.2.2.2.2.2.1+(1:Int))) (I.length:Int)).bind fun ft=>
 some (((),ft,true,()),(A,(2:Int),bk.1.1,G,()),())
else
 some (((),([]:B),false,()),(([]:B),(0:Int),(0:Int),([]:B),()),())
noncomputable def _3:aI:=aL af Tryz.f180 i180 w7 [] f180
theorem asV:aF O 180 _3:=aM xu Tryz.func180 (by kernel_rfl) (a7 ale (a7 ald (a7 ai8 (a7 ahz ag)))) (fun y=>by kernel_rfl) fun a=>by kernel_rfl
def eQ(s:B):Int:=bif s.all cR&&decide (s.length<=6)&&!(s==[])&&!hN s then db s else-1
theorem ot(s:B)(hs:aA s.length):f74 ((s,()),())=some ((eQ s,()),()):=HV ((s,()),()) hs
theorem zt(n:Nat)(h:n<1000000):eQ (Lib.itoa (n:Int))=(n:Int):=by
 have h1:=ot (Lib.itoa (n:Int)) (by rw[qW];have:=HM 5 n (by omega);unfold aA;omega)
 rw[ahT n h] at h1;simp only[bH,Prod.mk.injEq] at h1;exact h1.1.1.symm
def rR(a' w2 cr r:B):Option (aB×B):=bif within (eQ cr) 0 ((r.length:Int)-1) then(match r.drop (eQ cr).toNat with|10::e4=>some (⟨w2,2,eQ a',r.take (eQ cr).toNat⟩,e4)|_=>none) else none
def gD(ws:List B)(r:B):Option (aB×B):=match ws with
 |[U,a',w2]=>bif U==im then some (⟨w2,1,eQ a',[]⟩,r) else bif U==ik then some (⟨a',3,0,w2⟩,r) else none
 |[U,a',w2,cr]=>bif U==iH then rR a' w2 cr r else none
 |_=>none
def nU(s:B):Option (aB×B):=match dC 10 s with
 |some (bC,r)=>gD (splitN 32 4 bC) r
 |none=>none
abbrev vd(D:Bool)(e:aB)(r:B):w7.J:=(((),(r,(D,()))),((e.path,(e.kind,(e.mode,(e.text,())))),()))
theorem ML{n:Nat}(h:0<n):bf n (0:Int)=some 0:=fP h
theorem MK{n:Nat}(h:1<n):bf n (1:Int)=some 1:=fP h
theorem acx{n:Nat}(h:2<n):bf n (2:Int)=some 2:=fP h
theorem acw{n:Nat}(h:3<n):bf n (3:Int)=some 3:=fP h
theorem RJ(s:B)(hs:s.length<=2000000):∃(r:B) (e:aB),f180 ((s,()),())=some (vd (nU s).isSome e r)/\∀q,nU s=some q->q=(e,r):=by
 have c1:=lN 10 s (by omega) 1
 have c1:f73 ((s,((10:Int),((1:Int),()))),())=_:=c1;have zero:∀{D:Option (aB×B)} {x:Option w7.J},D=none->x=some (vd false ⟨[],0,0,[]⟩ [])->∃(r:B) (e:aB),x=some (vd D.isSome e r)/\∀q,D=some q->q=(e,r):=by
  intro D x aP hx;subst aP;exact⟨[],⟨[],0,0,[]⟩,hx,fun q aC=>by cases aC⟩
 have one:∀{D:Option (aB×B)} {x:Option w7.J} {e:aB} {r:B},D=some (e,r)->x=some (vd true e r)->∃(r:B) (e:aB),x=some (vd D.isSome e r)/\∀q,D=some q->q=(e,r):=by
  intro D x e r aP hx;subst aP;exact⟨r,e,hx,fun q aC=>by cases aC;rfl⟩
 cases aC:dC 10 s with
 |none=>
  have eJ:splitN 10 1 s=[s]:=by unfold splitN;rw[aC]
  rw[eJ] at c1;refine zero (by unfold nU;rw[aC]) ?_
  have d:decide ((([s]:List B).length:Int)<2)=true:=rfl;simp only[f180,c1,Y,d,ad]
 |some q=>
  obtain⟨bC,rest⟩:=q;have hl:=(iT aC).1;have hl:s.length=bC.length+1+rest.length:=by rw[hl];simp;omega
  have eJ:splitN 10 1 s=[bC,rest]:=by unfold splitN;rw[aC];rfl
  rw[eJ] at c1;have c2:=lN 32 bC (by omega) 4
  have c2:f73 ((bC,((32:Int),((4:Int),()))),())=_:=c2;have hr:nU s=gD (splitN 32 4 bC) rest:=by unfold nU;rw[aC]
  have hm:=qK 32 4 bC;have hp:=PT 32 4 bC;rw[hr];generalize splitN 32 4 bC=ws at c2 hm hp;have d:decide ((([bC,rest]:List B).length:Int)<2)=false:=rfl;have i0:bf ([bC,rest]:List B).length (0:Int)=some 0:=rfl;have i1:bf ([bC,rest]:List B).length (1:Int)=some 1:=rfl;have eU:([bC,rest]:List B)[0]? =some bC:=rfl;have ep:([bC,rest]:List B)[1]? =some rest:=rfl;have xh:∀w:B,(w==([100,105,114]:B))=(w==im):=fun _=>rfl
  have C':∀w:B,(w==([108,105,110,107]:B))=(w==ik):=fun _=>rfl
  have tY:∀w:B,(w==([102,105,108,101]:B))=(w==iH):=fun _=>rfl
  have other:∀(U:B) (more:List B),ws=U::more->((ws.length:Int)==3)=false->((ws.length:Int)==4)=false->gD ws rest=none->∃(r:B) (e:aB),f180 ((s,()),())=some (vd (gD ws rest).isSome e r)/\∀q,gD ws rest=some q->q=(e,r):=by
   intro U more hw h3 aD h;refine zero h ?_
   have h_:bf ws.length (0:Int)=some 0:=ML (by omega)
   have dT:ws[0]? =some U:=by rw[hw];rfl
   simp only[f180,c1,Y,d,ak,i0,eU,c2,nu,h_,dT,h3];cases U==([100,105,114]:B)<;>simp only[ad,ak,Y,ow,h_,dT,h3]<;>cases U==([108,105,110,107]:B)<;>simp only[ad,ak,Y,pz,h_,dT,aD]<;>cases U==([102,105,108,101]:B)<;>rfl
  match ws,other,c2,hm,hp with
  |[],other,c2,hm,hp=>exact absurd hp (by decide)
  |[U],other,c2,hm,hp=>exact other U [] rfl rfl rfl rfl
  |[U,a'],other,c2,hm,hp=>exact other U [a'] rfl rfl rfl rfl
  |U::a'::w2::cr::lu::more,other,c2,hm,hp=>exact other U _ rfl (by rw[beq_eq_false_iff_ne];simp;omega) (by rw[beq_eq_false_iff_ne];simp;omega) rfl
  |[U,a',w2],_,c2,hm,hp=>
   have h_:bf ([U,a',w2]:List B).length (0:Int)=some 0:=rfl;have mm:bf ([U,a',w2]:List B).length (1:Int)=some 1:=rfl;have qE:bf ([U,a',w2]:List B).length (2:Int)=some 2:=rfl;have dT:([U,a',w2]:List B)[0]? =some U:=rfl;have cV:([U,a',w2]:List B)[1]? =some a':=rfl;have dD:([U,a',w2]:List B)[2]? =some w2:=rfl;have h3:((([U,a',w2]:List B).length:Int)==3)=true:=rfl;have aD:((([U,a',w2]:List B).length:Int)==4)=false:=rfl;have m1:=hm a' (by simp)
   have n1:=ot a' (by unfold aA;omega)
   cases fe:U==im with
   |true=>
    refine one (show gD [U,a',w2] rest=some (⟨w2,1,eQ a',[]⟩,rest) by unfold gD;simp only[fe,ad]) ?_
    simp only[f180,c1,Y,d,ak,i0,eU,c2,nu,h_,dT,h3,xh,fe,ad,qE,dD,mm,cV,n1,i1,ep]
   |false=>
    cases e1:U==ik with
    |true=>
     refine one (show gD [U,a',w2] rest=some (⟨a',3,0,w2⟩,rest) by unfold gD;simp only[fe,e1,ad,ak]) ?_
     simp only[f180,c1,Y,d,ak,i0,eU,c2,nu,h_,dT,h3,xh,fe,ad,qE,dD,mm,cV,i1,ep,ow,C',e1]
    |false=>
     refine zero (show gD [U,a',w2] rest=none by unfold gD;simp only[fe,e1,ak]) ?_
     simp only[f180,c1,Y,d,ak,i0,eU,c2,nu,h_,dT,h3,aD,xh,fe,ow,C',e1,pz];cases U==([102,105,108,101]:B)<;>rfl
  |[U,a',w2,cr],_,c2,hm,hp=>
   have h_:bf ([U,a',w2,cr]:List B).length (0:Int)=some 0:=rfl;have mm:bf ([U,a',w2,cr]:List B).length (1:Int)=some 1:=rfl;have qE:bf ([U,a',w2,cr]:List B).length (2:Int)=some 2:=rfl;have Oe:bf ([U,a',w2,cr]:List B).length (3:Int)=some 3:=rfl;have dT:([U,a',w2,cr]:List B)[0]? =some U:=rfl;have cV:([U,a',w2,cr]:List B)[1]? =some a':=rfl;have dD:([U,a',w2,cr]:List B)[2]? =some w2:=rfl;have dZ:([U,a',w2,cr]:List B)[3]? =some cr:=rfl;have h3:((([U,a',w2,cr]:List B).length:Int)==3)=false:=rfl;have aD:((([U,a',w2,cr]:List B).length:Int)==4)=true:=rfl;have m1:=hm a' (by simp)
   have m3:=hm cr (by simp)
   have n1:=ot a' (by unfold aA;omega)
   have je:=ot cr (by unfold aA;omega)
   have b1:∀b:Bool,(bif b then some ((((),(([]:B),(false,((),((),(false,())))))),((([]:B),((0:Int),((0:Int),(([]:B),())))),([bC,rest],([U,a',w2,cr],()))))) else some ((((),(([]:B),(false,((),((),(false,())))))),((([]:B),((0:Int),((0:Int),(([]:B),())))),([bC,rest],([U,a',w2,cr],()))))))=some ((((),(([]:B),(false,((),((),(false,())))))),((([]:B),((0:Int),((0:Int),(([]:B),())))),([bC,rest],([U,a',w2,cr],()))))):=fun b=>by cases b<;>rfl
   cases e2:U==iH with
   |false=>
    refine zero (show gD [U,a',w2,cr] rest=none by unfold gD;simp only[e2,ak]) ?_
    simp only[f180,c1,Y,d,ak,i0,eU,c2,nu,h_,dT,h3,aD,b1,ow,pz,tY,e2]
   |true=>
    have hw:gD [U,a',w2,cr] rest=rR a' w2 cr rest:=by unfold gD;simp only[e2,ad]
    rw[hw];have jQ:IntKind.i64.wrap (((rest.length:Nat):Int)-1)=(rest.length:Int)-1:=c5 (by omega) (by omega)
    have hin:=oF ((eQ cr,((0:Int),((rest.length:Int)-1,()))),());have hin:f75 ((eQ cr,((0:Int),((rest.length:Int)-1,()))),())=some ((within (eQ cr) 0 ((rest.length:Int)-1),()),()):=hin;cases hi:within (eQ cr) 0 ((rest.length:Int)-1) with
    |false=>
     rw[hi] at hin;refine zero (by unfold rR;rw[hi];rfl) ?_
     simp only[f180,c1,Y,d,ak,i0,eU,c2,nu,h_,dT,h3,aD,b1,ow,pz,tY,e2,ad,Oe,dZ,je,vr,i1,ep,jQ,hin,bK,bu]
    |true=>
     rw[hi] at hin;have hb:=s0 hi;obtain⟨n,hn⟩:∃n:Nat,eQ cr=(n:Int):=⟨(eQ cr).toNat,by omega⟩
     rw[hn] at hin je hb;have hlt:n<rest.length:=by omega
     have ek:rR a' w2 cr rest=match rest.drop n with|10::e4=>some (⟨w2,2,eQ a',rest.take n⟩,e4)|_=>none:=by
      unfold rR;rw[hi,hn];rfl
     have wU:rest.drop n=rest[n]::rest.drop (n+1):=List.drop_eq_getElem_cons hlt;have hx:aS rest ((n:Nat):Int)=some rest[n]:=by rw[cd];exact d_ hlt
     rw[wU] at ek;rw[ek];generalize rest[n]=b at hx;by_cases se:b=10
     ·subst se;have t1:((((10:UInt8).toNat:Nat):Int) !=10)=false:=rfl;have s1:bq rest 0 ((n:Nat):Int)=some (rest.take n):=gx (by omega)
      have axx:IntKind.i64.wrap (((n:Nat):Int)+1)=((n+1:Nat):Int):=b9 (by unfold aA;omega)
      have s2:bq rest ((n+1:Nat):Int) ((rest.length:Nat):Int)=some (rest.drop (n+1)):=fC (by omega)
      refine one rfl ?_
      simp only[f180,c1,Y,d,ak,i0,eU,c2,nu,h_,dT,h3,aD,b1,ow,pz,tY,e2,ad,Oe,dZ,je,vr,i1,ep,jQ,hin,bK,bu,hx,t1,qE,dD,mm,cV,n1,s1,axx,s2]
     ·have t1:(((b.toNat:Nat):Int) !=10)=true:=by
       rw[bne_iff_ne];intro h;exact se (UInt8.toNat_inj.1 (by have:((10:UInt8).toNat:Int)=10:=rfl;omega))
      refine zero (by split<;>first|rfl|(rename_i h;simp at h;exact absurd h.1 se)) ?_
      simp only[f180,c1,Y,d,ak,i0,eU,c2,nu,h_,dT,h3,aD,b1,ow,pz,tY,e2,ad,Oe,dZ,je,vr,i1,ep,jQ,hin,bK,bu,hx,t1]
theorem TI{s r:B}{e:aB}(h:nU s=some (e,r)):e.path.length<=s.length/\e.text.length<=s.length/\r.length<s.length:=by
 unfold nU at h;cases aC:dC 10 s with
 |none=>rw[aC] at h;cases h
 |some q=>
  obtain⟨bC,rest⟩:=q;rw[aC] at h;have hl:=(iT aC).1;have hl:s.length=bC.length+1+rest.length:=by rw[hl];simp;omega
  have hm:=qK 32 4 bC;have h:gD (splitN 32 4 bC) rest=some (e,r):=h;generalize splitN 32 4 bC=ws at h hm;unfold gD at h;split at h
  ·rename_i U a' w2;have m1:=hm a' (by simp)
   have m2:=hm w2 (by simp)
   cases fe:U==im<;>simp only[fe,ad,ak] at h
   ·cases e1:U==ik<;>simp only[e1,ad,ak] at h
    ·cases h
    ·simp only[bH,Prod.mk.injEq] at h;obtain⟨rfl,rfl⟩:=h;exact⟨by show a'.length<=_;omega,by show w2.length<=_;omega,by omega⟩
   ·simp only[bH,Prod.mk.injEq] at h;obtain⟨rfl,rfl⟩:=h;exact⟨by show w2.length<=_;omega,by show 0<=_;omega,by omega⟩
  ·rename_i U a' w2 cr;have m2:=hm w2 (by simp)
   cases e2:U==iH<;>simp only[e2,ad,ak] at h
   ·cases h
   ·unfold rR at h;cases dN:within (eQ cr) 0 ((rest.length:Int)-1)<;>simp only[dN,ad,ak] at h
    ·cases h
    ·split at h
     ·rename_i e4 aa;simp only[bH,Prod.mk.injEq] at h;obtain⟨rfl,rfl⟩:=h;have M8:=congrArg List.length aa;simp only[List.length_drop,cY] at M8;exact⟨by show w2.length<=_;omega,by show(rest.take _).length<=_;simp;omega,by omega⟩
     ·cases h
  ·cases h
theorem amD{e:aB}(h:e9 e=true)(r:B):nU (et e++r)=some (e,r):=by
 have hw:=(FV h).1;unfold nU;rw[Rg h];show gD (splitN 32 4 (pZ e)) (wO e r)=_;obtain⟨n,hn,iB⟩:=He h;have g2:=zt n (by omega)
 have rT:splitN 32 4 (pZ e)=mA e:=O4 _ 4 (by unfold mA;cases e.kind==1<;>cases e.kind==3<;>simp) hw (by unfold mA;cases e.kind==1<;>cases e.kind==3<;>simp)
 rw[rT];obtain⟨p,k,m,t⟩:=e;have hn:m=n:=hn;subst hn;rcases vu h with hk|hk|hk
 ·have hk:k=1:=hk;subst hk;have ay:t=[]:=Rr h rfl;subst ay;show gD [im,Lib.itoa (n:Int),p] r=_;unfold gD;have e2:(im==im)=true:=by decide
  simp only[e2,g2,ad]
 ·have hk:k=2:=hk;subst hk;have hb:t.length<=80:=by
   have:=Qb h rfl;unfold oG at this;simp only[bz,dW] at this;exact this.2
  have aK:=zt t.length (by omega)
  show gD [iH,Lib.itoa (n:Int),p,Lib.itoa (t.length:Int)] (t++10::r)=_;unfold gD;have bE:(iH==iH)=true:=by decide
  simp only[bE,ad];unfold rR;have d1:(t++10::r).drop t.length=10::r:=by simp
  have d2:(t++10::r).take t.length=t:=by simp
  have hw:within (t.length:Int) 0 (((t++10::r).length:Int)-1)=true:=by
   unfold within;rw[decide_eq_true (by omega),decide_eq_true (by simp;omega)]
   rfl
  simp only[aK,hw,ad,Int.toNat_natCast,d1,d2,g2]
 ·have hk:k=3:=hk;subst hk;obtain⟨_,hm⟩:=FR h rfl;have hm:(n:Int)=0:=hm;show gD [ik,p,t] r=_;unfold gD;have e1:(ik==im)=false:=by decide
  have e2:(ik==ik)=true:=by decide
  simp only[e1,e2,ad,ak];rw[hm]
noncomputable abbrev av1:a8:=[(73,pf),(179,_4)]
theorem xv:aT O (aZ af av1):=aY ⟨ql,asW,⟨⟩⟩
abbrev Ps:Shape:=⟨[ax 2 2 0,ax 5 5 0,bd 6 3000384,am 7,aj 8,bd 9 3000576],[bv 5000130 .need 2 2,bv 5000131 .entry 2 3,aw 2 [ah,ah,.own 5000130,.own 5000131],bv 5000322 .need 5 2,bv 5000323 .entry 5 3,aw 5 [ah,ah,.own 5000322,.own 5000323],bc 3000384 .str 6 0,bc 3000576 .str 9 0],118⟩
abbrev Pl:List aR:=[(.norm,⟨[ax 2 2 0,ax 5 5 0,bd 6 3000384,am 7,aj 8,bd 9 3000576,ar 52],[bv 5000130 .need 2 2,bv 5000131 .entry 2 3,aw 2 [ah,ah,.own 5000130,.own 5000131],bv 5000322 .need 5 2,bv 5000323 .entry 5 3,aw 5 [ah,ah,.own 5000322,.own 5000323],bc 3000384 .str 6 0,bc 3000576 .str 9 0],118⟩)]
noncomputable def lI(y:Ps.J):Option (aH Pl):=
 bif(y.1.2.2.2.2.1==(1:Int)) then
(bf y.2.2.2.2.2.2.2.2.1.length (0:Int)).bind fun a=>
(y.2.2.2.2.2.2.2.2.1[a]?).bind fun b=>
 bif(b==([112,97,99,107]:B)) then
 some (((),(),(),y.1.2.2.2.1,y.1.2.2.2.2.1,(),((y.2.2.2.2.2.2.2.2.1.length:Int)==(3:Int)),()),y.2.1,y.2.2.1,(y.2.2.2.1.1,y.2.2.2.1.2.1,(),(),()),y.2.2.2.2.1,y.2.2.2.2.2.1,(y.2.2.2.2.2.2.1.1,y.2.2.2.2.2.2.1.2.1,(),(),()),y.2.2.2.2.2.2.2.1,y.2.2.2.2.2.2.2.2.1,())
else
 some (((),(),(),y.1.2.2.2.1,y.1.2.2.2.2.1,(),false,()),y.2.1,y.2.2.1,(y.2.2.2.1.1,y.2.2.2.1.2.1,(),(),()),y.2.2.2.2.1,y.2.2.2.2.2.1,(y.2.2.2.2.2.2.1.1,y.2.2.2.2.2.2.1.2.1,(),(),()),y.2.2.2.2.2.2.2.1,y.2.2.2.2.2.2.2.2.1,())
else
 some (((),(),(),y.1.2.2.2.1,y.1.2.2.2.2.1,(),false,()),y.2.1,y.2.2.1,(y.2.2.2.1.1,y.2.2.2.1.2.1,(),(),()),y.2.2.2.2.1,y.2.2.2.2.2.1,(y.2.2.2.2.2.2.1.1,y.2.2.2.2.2.2.1.2.1,(),(),()),y.2.2.2.2.2.2.2.1,y.2.2.2.2.2.2.2.2.1,())
theorem agB:aV O (ap (dk (ap (codeOf Tryz.f126) 1 250)) 500 128156) (aX Ps Pl lI):=cn xv (by kernel_rfl) ag fun y=>by kernel_rfl
abbrev Pr:Shape:=⟨[ax 2 2 0,ax 5 5 0,bd 6 3000384,am 7,aj 8,bd 9 3000576],[bv 5000130 .need 2 2,bv 5000131 .entry 2 3,aw 2 [ah,ah,.own 5000130,.own 5000131],bv 5000322 .need 5 2,bv 5000323 .entry 5 3,aw 5 [ah,ah,.own 5000322,.own 5000323],bc 3000384 .str 6 0,bc 3000576 .str 9 0],118⟩
abbrev Pk:List aR:=[(.norm,⟨[ax 2 2 0,ax 5 5 0,bd 6 3000384,am 7,aj 8,bd 9 3000576,ar 74],[bv 5000130 .need 2 2,bv 5000131 .entry 2 3,aw 2 [ah,ah,.own 5000130,.own 5000131],bv 5000322 .need 5 2,bv 5000323 .entry 5 3,aw 5 [ah,ah,.own 5000322,.own 5000323],bc 3000384 .str 6 0,bc 3000576 .str 9 0],118⟩)]
noncomputable def ms(y:Pr.J):Option (aH Pk):=
 bif(decide (y.1.2.2.2.2.1>(1:Int))) then
(bf y.2.2.2.2.2.2.2.1.length y.1.2.2.2.2.1).bind fun a=>
(y.2.2.2.2.2.2.2.1[a]?).bind fun b=>
 some (((),(),(),y.1.2.2.2.1,y.1.2.2.2.2.1,(),(b==([]:B)),()),y.2.1,y.2.2.1,(y.2.2.2.1.1,y.2.2.2.1.2.1,(),(),()),y.2.2.2.2.1,y.2.2.2.2.2.1,(y.2.2.2.2.2.2.1.1,y.2.2.2.2.2.2.1.2.1,(),(),()),y.2.2.2.2.2.2.2.1,y.2.2.2.2.2.2.2.2.1,())
else
 some (((),(),(),y.1.2.2.2.1,y.1.2.2.2.2.1,(),false,()),y.2.1,y.2.2.1,(y.2.2.2.1.1,y.2.2.2.1.2.1,(),(),()),y.2.2.2.2.1,y.2.2.2.2.2.1,(y.2.2.2.2.2.2.1.1,y.2.2.2.2.2.2.1.2.1,(),(),()),y.2.2.2.2.2.2.2.1,y.2.2.2.2.2.2.2.2.1,())
theorem agA:aV O (ap (dk (ap (codeOf Tryz.f126) 1 250)) 500 512630) (aX Pr Pk ms):=cn xv (by kernel_rfl) ag fun y=>by kernel_rfl
abbrev O5:Shape:=⟨[ax 2 2 0,ax 5 5 0,bd 6 3000384,am 7,aj 8,bd 9 3000576],[bv 5000130 .need 2 2,bv 5000131 .entry 2 3,aw 2 [ah,ah,.own 5000130,.own 5000131],bv 5000322 .need 5 2,bv 5000323 .entry 5 3,aw 5 [ah,ah,.own 5000322,.own 5000323],bc 3000384 .str 6 0,bc 3000576 .str 9 0],118⟩
abbrev O3:List aR:=[(.norm,⟨[ax 2 2 0,ax 5 5 0,bd 6 3000384,am 7,aj 8,bd 9 3000576,ar 86],[bv 5000130 .need 2 2,bv 5000131 .entry 2 3,aw 2 [ah,ah,.own 5000130,.own 5000131],bv 5000322 .need 5 2,bv 5000323 .entry 5 3,aw 5 [ah,ah,.own 5000322,.own 5000323],bc 3000384 .str 6 0,bc 3000576 .str 9 0],118⟩)]
noncomputable def oj(y:O5.J):Option (aH O3):=
 bif(decide (y.1.2.2.2.2.1>(1:Int))) then
(bf y.2.2.2.2.2.2.2.2.1.length (0:Int)).bind fun a=>
(y.2.2.2.2.2.2.2.2.1[a]?).bind fun b=>
 bif(b==([110,101,101,100]:B)) then
 some (((),(),(),y.1.2.2.2.1,y.1.2.2.2.2.1,(),((y.2.2.2.2.2.2.2.2.1.length:Int)==(2:Int)),()),y.2.1,y.2.2.1,(y.2.2.2.1.1,y.2.2.2.1.2.1,(),(),()),y.2.2.2.2.1,y.2.2.2.2.2.1,(y.2.2.2.2.2.2.1.1,y.2.2.2.2.2.2.1.2.1,(),(),()),y.2.2.2.2.2.2.2.1,y.2.2.2.2.2.2.2.2.1,())
else
 some (((),(),(),y.1.2.2.2.1,y.1.2.2.2.2.1,(),false,()),y.2.1,y.2.2.1,(y.2.2.2.1.1,y.2.2.2.1.2.1,(),(),()),y.2.2.2.2.1,y.2.2.2.2.2.1,(y.2.2.2.2.2.2.1.1,y.2.2.2.2.2.2.1.2.1,(),(),()),y.2.2.2.2.2.2.2.1,y.2.2.2.2.2.2.2.2.1,())
else
 some (((),(),(),y.1.2.2.2.1,y.1.2.2.2.2.1,(),false,()),y.2.1,y.2.2.1,(y.2.2.2.1.1,y.2.2.2.1.2.1,(),(),()),y.2.2.2.2.1,y.2.2.2.2.2.1,(y.2.2.2.2.2.2.1.1,y.2.2.2.2.2.2.1.2.1,(),(),()),y.2.2.2.2.2.2.2.1,y.2.2.2.2.2.2.2.2.1,())
theorem afR:aV O (ap (dk (ap (codeOf Tryz.f126) 1 250)) 500 2050526) (aX O5 O3 oj):=cn xv (by kernel_rfl) ag fun y=>by kernel_rfl
abbrev vH:Shape:=⟨[ax 2 2 0,ax 5 5 0,bd 6 3000384,am 7,aj 8],[bv 5000130 .need 2 2,bv 5000131 .entry 2 3,aw 2 [ah,ah,.own 5000130,.own 5000131],bv 5000322 .need 5 2,bv 5000323 .entry 5 3,aw 5 [ah,ah,.own 5000322,.own 5000323],bc 3000384 .str 6 0],118⟩
abbrev zI:List aR:=[(.ret,⟨[ax 2 2 0,am 3,ar 4],[bv 5000130 .need 2 2,bv 5000131 .entry 2 3,aw 2 [ah,ah,.own 5000130,.own 5000131]],118⟩),(.exit 0,⟨[ax 2 2 0,ax 5 5 0],[bv 5000130 .need 2 2,bv 5000131 .entry 2 3,aw 2 [ah,ah,.own 5000130,.own 5000131],bv 5000322 .need 5 2,bv 5000323 .entry 5 3,aw 5 [ah,ah,.own 5000322,.own 5000323]],118⟩)]
noncomputable def ic(y:vH.J):bQ vH zI:=
 bif(decide (y.1.2.2.2.2.1<(y.2.2.2.2.2.2.2.1.length:Int))) then
 bif(decide (y.1.2.2.2.2.1<=(8:Int))) then
(bf y.2.2.2.2.2.2.2.1.length y.1.2.2.2.2.1).bind fun a=>
(y.2.2.2.2.2.2.2.1[a]?).bind fun b=>
(f73 ((b,(32:Int),(2:Int),()),())).bind fun c=>
(bf y.2.2.2.2.2.2.2.1.length y.1.2.2.2.2.1).bind fun d=>
(y.2.2.2.2.2.2.2.1[d]?).bind fun e=>
 bif(decide ((y.1.2.2.2.1.length:Int)<(IntKind.i64.wrap ((e.length:Int)+(1:Int))))) then
 some (.inr (.inl (((),([]:B),false,()),y.2.2.2.2.1,y.2.2.2.2.2.1,(y.2.2.2.2.2.2.1.1,y.2.2.2.2.2.2.1.2.1,(),(),()),())))
else
(bf y.2.2.2.2.2.2.2.1.length y.1.2.2.2.2.1).bind fun f=>
(y.2.2.2.2.2.2.2.1[f]?).bind fun g=>
(bq y.1.2.2.2.1 (IntKind.i64.wrap ((g.length:Int)+(1:Int))) (y.1.2.2.2.1.length:Int)).bind fun h=>
(lI (((),(),(),h,y.1.2.2.2.2.1,(),()),y.2.1,y.2.2.1,(y.2.2.2.1.1,y.2.2.2.1.2.1,(),(),()),y.2.2.2.2.1,y.2.2.2.2.2.1,(y.2.2.2.2.2.2.1.1,y.2.2.2.2.2.2.1.2.1,(),(),()),y.2.2.2.2.2.2.2.1,c.2.1,())).bind fun i=>
 bif i.1.2.2.2.2.2.2.1 then
(bf i.2.2.2.2.2.2.2.2.1.length (1:Int)).bind fun j=>
(i.2.2.2.2.2.2.2.2.1[j]?).bind fun k=>
(bf i.2.2.2.2.2.2.2.2.1.length (2:Int)).bind fun l=>
(i.2.2.2.2.2.2.2.2.1[l]?).bind fun m=>
 some (.inl (((),(),(),i.1.2.2.2.1,(IntKind.i64.wrap (i.1.2.2.2.2.1+(1:Int))),()),i.2.1,i.2.2.1,(i.2.2.2.1.1,i.2.2.2.1.2.1,(),(),()),i.2.2.2.2.1,i.2.2.2.2.2.1,(k,m,(),(),()),i.2.2.2.2.2.2.2.1,()))
else
(ms (((),(),(),i.1.2.2.2.1,i.1.2.2.2.2.1,(),()),i.2.1,i.2.2.1,(i.2.2.2.1.1,i.2.2.2.1.2.1,(),(),()),i.2.2.2.2.1,i.2.2.2.2.2.1,(i.2.2.2.2.2.2.1.1,i.2.2.2.2.2.2.1.2.1,(),(),()),i.2.2.2.2.2.2.2.1,i.2.2.2.2.2.2.2.2.1,())).bind fun n=>
 bif n.1.2.2.2.2.2.2.1 then
 some (.inr (.inl (((),n.1.2.2.2.1,true,()),n.2.2.2.2.1,n.2.2.2.2.2.1,(n.2.2.2.2.2.2.1.1,n.2.2.2.2.2.2.1.2.1,(),(),()),())))
else
(oj (((),(),(),n.1.2.2.2.1,n.1.2.2.2.2.1,(),()),n.2.1,n.2.2.1,(n.2.2.2.1.1,n.2.2.2.1.2.1,(),(),()),n.2.2.2.2.1,n.2.2.2.2.2.1,(n.2.2.2.2.2.2.1.1,n.2.2.2.2.2.2.1.2.1,(),(),()),n.2.2.2.2.2.2.2.1,n.2.2.2.2.2.2.2.2.1,())).bind fun D=>
 bif D.1.2.2.2.2.2.2.1 then
(bf D.2.2.2.2.2.2.2.2.1.length (1:Int)).bind fun p=>
(D.2.2.2.2.2.2.2.2.1[p]?).bind fun q=>
(f179 ((q,()),())).bind fun r=>
(cm 40 D.2.2.2.2.1 ([(bD.mk r.2.1.1 r.2.1.2.1 r.2.1.2.2.1)]:List bD)).bind fun s=>
 some (.inl (((),(),(),D.1.2.2.2.1,(IntKind.i64.wrap (D.1.2.2.2.2.1+(1:Int))),()),D.2.1,D.2.2.1,(D.2.2.2.1.1,D.2.2.2.1.2.1,(),(),()),s,D.2.2.2.2.2.1,(D.2.2.2.2.2.2.1.1,D.2.2.2.2.2.2.1.2.1,(),(),()),D.2.2.2.2.2.2.2.1,()))
else
 bif(decide (D.1.2.2.2.2.1>(0:Int))) then
 some (.inr (.inl (((),([]:B),false,()),D.2.2.2.2.1,D.2.2.2.2.2.1,(D.2.2.2.2.2.2.1.1,D.2.2.2.2.2.2.1.2.1,(),(),()),())))
else
 some (.inl (((),(),(),D.1.2.2.2.1,(IntKind.i64.wrap (D.1.2.2.2.2.1+(1:Int))),()),D.2.1,D.2.2.1,(D.2.2.2.1.1,D.2.2.2.1.2.1,(),(),()),D.2.2.2.2.1,D.2.2.2.2.2.1,(D.2.2.2.2.2.2.1.1,D.2.2.2.2.2.2.1.2.1,(),(),()),D.2.2.2.2.2.2.2.1,()))
else
 some (.inr (.inr (((),(),()),y.2.1,y.2.2.1,(y.2.2.2.1.1,y.2.2.2.1.2.1,(),(),()),y.2.2.2.2.1,y.2.2.2.2.2.1,(y.2.2.2.2.2.2.1.1,y.2.2.2.2.2.2.1.2.1,(),(),()),())))
else
 some (.inr (.inr (((),(),()),y.2.1,y.2.2.1,(y.2.2.2.1.1,y.2.2.2.1.2.1,(),(),()),y.2.2.2.2.1,y.2.2.2.2.2.1,(y.2.2.2.2.2.2.1.1,y.2.2.2.2.2.2.1.2.1,(),(),()),())))
noncomputable def lO:vH.J->Option (aH zI):=bA ic
theorem alj:aV O (ap (codeOf Tryz.f126) 1 250) (aX vH zI lO):=bT xv (by kernel_rfl) (a7 agB (a7 agA (a7 afR ag))) fun y=>by kernel_rfl
abbrev i126:Shape:=⟨[am 0],[],118⟩
abbrev Lg:Shape:=⟨[ax 2 2 0,am 3,ar 4],[bv 5000130 .need 2 2,bv 5000131 .entry 2 3,aw 2 [ah,ah,.own 5000130,.own 5000131]],118⟩
noncomputable def f126(a:i126.J):Option Lg.J:=
(f73 ((a.1.1,(10:Int),(IntKind.i64.wrap ((a.1.1.length:Int)+(1:Int))),()),())).bind fun b=>
(lO (((),(),(),a.1.1,(0:Int),()),([]:List bD),([]:List aB),(([]:B),([]:B),(),(),()),([]:List bD),([]:List aB),(([]:B),([]:B),(),(),()),b.2.1,())).bind fun c=>
(match c with
|.inl d=>
 some (((),d.1.2.1,d.1.2.2.1,()),d.2.1,d.2.2.1,(d.2.2.2.1.1,d.2.2.2.1.2.1,(),(),()),())
|.inr e=>
 some (((),([]:B),false,()),e.2.2.2.2.1,e.2.2.2.2.2.1,(e.2.2.2.2.2.2.1.1,e.2.2.2.2.2.2.1.2.1,(),(),()),()))
noncomputable def aaz:aI:=aL af Tryz.f126 i126 Lg [] f126
theorem atf:aF O 126 aaz:=aM xv Tryz.func126 (by kernel_rfl) (a7 alj ag) (fun y=>by kernel_rfl) fun a=>by kernel_rfl
noncomputable abbrev av0:a8:=[(90,yb),(180,_3),(181,L1)]
theorem aa9:aT O (aZ af av0):=aY ⟨DY,asV,XI,⟨⟩⟩
abbrev A8:Shape:=⟨[am 0,bd 4 3000256,am 5],[bc 3000256 .entry 4 0],41⟩
abbrev Iw:List aR:=[(.ret,⟨[bd 2 3000128,ar 3],[bc 3000128 .entry 2 0],41⟩),(.exit 0,⟨[am 0,bd 4 3000256],[bc 3000256 .entry 4 0],41⟩)]
noncomputable def re(y:A8.J):bQ A8 Iw:=
 bif(!(y.1.2.2.1==([]:B))) then
 bif(decide ((y.2.1.length:Int)<=(16:Int))) then
(f180 ((y.1.2.2.1,()),())).bind fun a=>
 bif(!a.1.2.2.1) then
 some (.inr (.inl (((),false,()),y.2.1,())))
else
(cm 48 y.2.1 ([(aB.mk a.2.1.1 a.2.1.2.1 a.2.1.2.2.1 a.2.1.2.2.2.1)]:List aB)).bind fun b=>
 some (.inl ((y.1.1,(),a.1.2.1,()),b,()))
else
 some (.inr (.inr ((y.1.1,(),()),y.2.1,())))
else
 some (.inr (.inr ((y.1.1,(),()),y.2.1,())))
noncomputable def vZ:A8.J->Option (aH Iw):=bA re
theorem anC:aV O (ap (codeOf Tryz.f127) 1 60) (aX A8 Iw vZ):=bT aa9 (by kernel_rfl) ag fun y=>by kernel_rfl
abbrev i127:Shape:=⟨[am 0],[],41⟩
abbrev Zt:Shape:=⟨[bd 2 3000128,ar 3],[bc 3000128 .entry 2 0],41⟩
noncomputable def f127(a:i127.J):Option Zt.J:=
(vZ ((a.1.1,(),a.1.1,()),([]:List aB),())).bind fun b=>
(match b with
|.inl c=>
 some (((),c.1.2.1,()),c.2.1,())
|.inr d=>
(f90 ((d.2.1,()),())).bind fun e=>
 bif e.1.1 then
(f181 ((d.2.1,()),())).bind fun f=>
 some (((),(f.1.1==d.1.1),()),d.2.1,())
else
 some (((),false,()),d.2.1,()))
noncomputable def aay:aI:=aL af Tryz.f127 i127 Zt [] f127
theorem z127:aF O 127 aay:=aM aa9 Tryz.func127 (by kernel_rfl) (a7 anC ag) (fun y=>by kernel_rfl) fun a=>by kernel_rfl
theorem apS(s:B):∀(m:Nat) (r:B) (t:List aB),r.length<=m->m<=2000000->t.length<=17->qk 2000000 t->
  ∃ns:List aB,ns.length<=17/\qk 2000000 ns/\(vZ ((s,((),(r,()))),(t,()))=some (.inr ((s,((),())),(ns,())))\/vZ ((s,((),(r,()))),(t,()))=some (.inl (((),(false,())),(ns,())))):=by
 intro m;induction m with
 |zero=>
  intro r t hs _ ay ha;have:r=[]:=List.length_eq_zero_iff.1 (by omega)
  subst this;exact⟨t,ay,ha,.inl (cC rfl)⟩
 |succ m ih=>
  intro r t hs hm ay ha;cases r with
  |nil=>exact⟨t,ay,ha,.inl (cC rfl)⟩
  |cons b r0=>
   have hne:((b::r0)==([]:B))=false:=rfl;generalize e5:b::r0=r at hs hne;by_cases x9:t.length<=16
   ·have d:decide (((t.length:Nat):Int)<=16)=true:=decide_eq_true (by omega)
    obtain⟨e4,e,h1,h2⟩:=RJ r (by omega)
    cases hr:nU r with
    |none=>
     rw[hr] at h1;refine⟨t,ay,ha,.inr (cC ?_)⟩;simp only[re,hne,bK,ad,d,h1,Y,Option.isSome_none]
    |some q=>
     have aC:=h2 q hr;subst aC;rw[hr] at h1;obtain⟨ed,fU,u'⟩:=TI hr;have fJ:cm 48 t ([(aB.mk e.path e.kind e.mode e.text)]:List aB)=some (t++[e]):=dw (by decide) (by unfold aA;simp;omega)
     have st:re ((s,((),(r,()))),(t,()))=some (.inl ((s,((),(e4,()))),(t++[e],()))):=by
      simp only[re,hne,bK,ad,d,h1,Y,Option.isSome_some,bu,ak,fJ]
     obtain⟨ns,g1,g2,g3⟩:=ih e4 (t++[e]) (by omega) (by omega) (by simp;omega) (fun x hx=>by
      rcases bo.1 hx with hx|hx
      ·exact ha x hx
      ·rw[List.mem_singleton.1 hx];exact⟨by omega,by omega⟩)
     exact⟨ns,g1,g2,g3.imp (ea st).trans (ea st).trans⟩
   ·have d:decide (((t.length:Nat):Int)<=16)=false:=decide_eq_false (by omega)
    refine⟨t,ay,ha,.inl (cC ?_)⟩;simp only[re,hne,bK,ad,d,ak]
theorem apR(s:B):∀(cv t:List aB),(∀e,e∈cv->e9 e=true)->t.length+cv.length<=16->(dt cv).length<=2000000->
  vZ ((s,((),(dt cv,()))),(t,()))=some (.inr ((s,((),())),(t++cv,()))):=by
 intro cv;induction cv with
 |nil=>intro t _ _ _;rw[List.append_nil];exact cC rfl
 |cons e cv ih=>
  intro t h ay hl;have he:=h e cj;have hr:=amD he (dt cv);have hE:dt (e::cv)=et e++dt cv:=by unfold dt;rw[List.flatMap_cons]
  rw[hE] at hl ⊢;have hlen:=(TI hr).2.2;have hne:((et e++dt cv)==([]:B))=false:=by
   cases hx:et e++dt cv with
   |nil=>rw[hx] at hlen;simp at hlen
   |cons b r=>rfl
  obtain⟨r,cW,h1,h2⟩:=RJ (et e++dt cv) hl;have aC:=h2 _ hr;simp only[Prod.mk.injEq] at aC;obtain⟨rfl,rfl⟩:=aC;rw[hr] at h1;have d:decide (((t.length:Nat):Int)<=16)=true:=decide_eq_true (by omega)
  have fJ:cm 48 t ([(aB.mk e.path e.kind e.mode e.text)]:List aB)=some (t++[e]):=dw (by decide) (by unfold aA;simp;simp at ay;omega)
  have st:re ((s,((),(et e++dt cv,()))),(t,()))=some (.inl ((s,((),(dt cv,()))),(t++[e],()))):=by
   simp only[re,hne,bK,ad,d,h1,Y,Option.isSome_some,bu,ak,fJ]
  have:=ih (t++[e]) (fun x hx=>h x (ci _ hx)) (by simp at ay ⊢;omega) (by omega)
  rw[List.append_assoc] at this;exact(ea st).trans this
theorem Ux{t:List aB}(hl:t.length<=17)(h:qk 2000000 t):iL t:=⟨by show t.length<=2097152;omega,fun e he=>by have:=h e he;exact⟨by show e.path.length<=2097152;omega,by show e.text.length<=2097152;omega⟩⟩
theorem aeW(s:B)(hs:s.length<=2000000):∃(ok:Bool) (t:List aB),f127 ((s,()),())=some (((),(ok,())),(t,()))/\t.length<=17/\qk 2000000 t:=by
 obtain⟨ns,g1,g2,g3⟩:=apS s s.length s [] (Nat.le_refl _) hs (by decide) (fun x hx=>by cases hx)
 rcases g3 with g3|g3
 ·have hb:=Ux g1 g2;have ay:=vF ((ns,()),()) hb;have ay:f90 ((ns,()),())=some ((dQ ns,()),()):=ay;cases hk:dQ ns with
  |false=>
   rw[hk] at ay;exact⟨false,ns,by simp only[f127,g3,Y,ay,ak],g1,g2⟩
  |true=>
   rw[hk] at ay;have hl:=FX ns (qO hk) hb (j2 hk);exact⟨_,ns,by simp only[f127,g3,Y,ay,ad,hl];rfl,g1,g2⟩
 ·exact⟨false,ns,by simp only[f127,g3,Y],g1,g2⟩
theorem aeV(t:List aB)(h:dQ t=true)(hs:(dt t).length<=2000000)(hb:iL t):
  f127 ((dt t,()),())=some (((),(true,())),(t,())):=by
 have g1:=apR (dt t) t [] (vp h) (by have:=j2 h;simpa using this) hs
 have ay:=vF ((t,()),()) hb;have ay:f90 ((t,()),())=some ((dQ t,()),()):=ay;rw[h] at ay;have hl:=FX t (qO h) hb (j2 h);simp only[f127,g1,List.nil_append,Y,ay,ad,hl,beq_self_eq_true]
theorem ajr{n:bD}(h:dR n=true):cp 32 (cZ n):=by
 obtain⟨h1,h2⟩:=yP h;have hs:cp 32 (eb n.kind):=by unfold eb;cases n.kind==1<;>cases n.kind==2<;>cases n.kind==3<;>exact cp.lit (by decide)
 refine((XV h1).dh hs).dh ?_
 rcases h2 with⟨_,h2⟩|⟨_,h2⟩
 ·rw[h2];exact cp.nil _
 ·exact XN h2
abbrev iD(rest:B)(i:Int)(ns:List bD)(bX vs:B)(lines:List B):vH.J:=(((),((),((),(rest,(i,()))))),(([]:List bD),(([]:List aB),((([]:B),(([]:B),((),((),())))),(ns,(([]:List aB),((bX,(vs,((),((),())))),(lines,()))))))))
abbrev qH(r:B)(ok:Bool)(ns:List bD)(bX vs:B):Lg.J:=(((),(r,(ok,()))),(ns,(([]:List aB),((bX,(vs,((),((),())))),()))))
abbrev OG(ns:List bD)(bX vs:B):aH zI:=.inr (((),((),())),(([]:List bD),(([]:List aB),((([]:B),(([]:B),((),((),())))),(ns,(([]:List aB),((bX,(vs,((),((),())))),())))))))
abbrev qI(k:Nat)(r:B)(ns:List bD)(bX vs:B):Prop:=r.length<=k/\ns.length<=9/\uy k ns/\bX.length<=k/\vs.length<=k
theorem apP(K:Nat)(b6:K<=2000000)(lines:List B)(ee:∀x,x∈lines->x.length<=K):∀(k i:Nat) (rest:B) (ns:List bD) (bX vs:B),k+i=9->rest.length<=K->ns.length<=i->uy K ns->bX.length<=K->vs.length<=K->
  ∃(r:B) (ok:Bool) (lg:List bD) (lh cH:B),qI K r lg lh cH/\(lO (iD rest (i:Int) ns bX vs lines)=some (.inl (qH r ok lg lh cH))\/lO (iD rest (i:Int) ns bX vs lines)=some (OG lg lh cH)):=by
 intro k;induction k with
 |zero=>
  intro i rest ns bX vs hi hr hn ha h1 h2;refine⟨[],false,ns,bX,vs,⟨Nat.zero_le _,by omega,ha,h1,h2⟩,.inr (cC ?_)⟩
  have d:decide ((i:Int)<=8)=false:=decide_eq_false (by omega)
  simp only[ic,d,ak];cases decide ((i:Int)<(lines.length:Int))<;>rfl
 |succ k ih=>
  intro i rest ns bX vs hi hr hn ha h1 h2;have d:decide ((i:Int)<=8)=true:=decide_eq_true (by omega)
  by_cases hlt:i<lines.length
  ·have hx:lines[i]? =some lines[i]:=d_ hlt;have hxl:=ee _ (List.getElem_mem hlt);generalize lines[i]=x at hx hxl;have hin:bf lines.length (i:Int)=some i:=fP hlt;have hw1:IntKind.i64.wrap (((x.length:Nat):Int)+1)=((x.length+1:Nat):Int):=b9 (by unfold aA;omega)
   have li:IntKind.i64.wrap (((i:Nat):Int)+1)=((i+1:Nat):Int):=b9 (by unfold aA;omega)
   have c2:=lN 32 x (by omega) 2
   have c2:f73 ((x,((32:Int),((2:Int),()))),())=_:=c2;have hm:=qK 32 2 x;have hp:=PT 32 2 x;generalize splitN 32 2 x=ws at c2 hm hp;obtain⟨U,more,rfl⟩:∃U more,ws=U::more:=by
    cases ws with
    |nil=>exact absurd hp (by decide)
    |cons a b=>exact⟨a,b,rfl⟩
   have h_:bf (U::more).length (0:Int)=some 0:=ML (by simp)
   have dT:(U::more)[0]? =some U:=rfl;by_cases hlen:rest.length<x.length+1
   ·have j0:decide (((rest.length:Nat):Int)<((x.length+1:Nat):Int))=true:=decide_eq_true (by omega)
    refine⟨[],false,ns,bX,vs,⟨Nat.zero_le _,by omega,ha,h1,h2⟩,.inl (cC ?_)⟩
    simp only[ic,ct hlt,d,ad,hin,Y,hx,c2,hw1,j0]
   ·have j0:decide (((rest.length:Nat):Int)<((x.length+1:Nat):Int))=false:=decide_eq_false (by omega)
    have hs:bq rest ((x.length+1:Nat):Int) ((rest.length:Nat):Int)=some (rest.drop (x.length+1)):=fC (by omega)
    have mY:(rest.drop (x.length+1)).length<=K:=by simp;omega
    generalize rest.drop (x.length+1)=r1 at hs mY;have go:∀(xK:List bD) (Ee xA:B),xK.length<=i+1->uy K xK->Ee.length<=K->xA.length<=K->ic (iD rest (i:Int) ns bX vs lines)=some (.inl (iD r1 ((i+1:Nat):Int) xK Ee xA lines))->
      ∃(r:B) (ok:Bool) (lg:List bD) (lh cH:B),qI K r lg lh cH/\(lO (iD rest (i:Int) ns bX vs lines)=some (.inl (qH r ok lg lh cH))\/lO (iD rest (i:Int) ns bX vs lines)=some (OG lg lh cH)):=by
     intro xK Ee xA q1 q2 dU ni EV;obtain⟨r,ok,lg,lh,cH,b,e⟩:=ih (i+1) r1 xK Ee xA (by omega) mY q1 q2 dU ni
     exact⟨r,ok,lg,lh,cH,b,e.imp (ea EV).trans (ea EV).trans⟩
    have stop:∀(r:B) (ok:Bool),r.length<=K->ic (iD rest (i:Int) ns bX vs lines)=some (.inr (.inl (qH r ok ns bX vs)))->
      ∃(r:B) (ok:Bool) (lg:List bD) (lh cH:B),qI K r lg lh cH/\(lO (iD rest (i:Int) ns bX vs lines)=some (.inl (qH r ok lg lh cH))\/lO (iD rest (i:Int) ns bX vs lines)=some (OG lg lh cH)):=
     fun r ok q1 q2=>⟨r,ok,ns,bX,vs,⟨q1,by omega,ha,h1,h2⟩,.inl (cC q2)⟩
    match i,hn,hi,hin,li,hlt,hx,d,go,stop,ih with
    |0,hn,hi,hin,li,hlt,hx,d,go,stop,ih=>
     refine go ns bX vs (by omega) ha h1 h2 ?_
     have t1:((((0:Nat):Int))==1)=false:=rfl;have t2:decide ((((0:Nat):Int))>1)=false:=rfl;have t3:decide ((((0:Nat):Int))>0)=false:=rfl;simp only[ic,ct hlt,d,ad,hin,Y,hx,c2,hw1,j0,ak,hs,lI,t1,ms,t2,oj,t3,li]
    |1,hn,hi,hin,li,hlt,hx,d,go,stop,ih=>
     have t1:((((1:Nat):Int))==1)=true:=rfl;have t2:decide ((((1:Nat):Int))>1)=false:=rfl;have t3:decide ((((1:Nat):Int))>0)=true:=rfl;cases hc:(U==([112,97,99,107]:B))&&(((U::more).length:Int)==3) with
     |true=>
      rw[bz] at hc;obtain⟨a',w2,rfl⟩:∃a' w2,more=[a',w2]:=by
       have:more.length=2:=by have:=eq_of_beq hc.2;simp at this;omega
       match more,this with
       |[a,b],_=>exact⟨a,b,rfl⟩
      refine go ns a' w2 (by omega) ha (by have:=hm a' (by simp);omega) (by have:=hm w2 (by simp);omega) ?_
      have mm:bf ([U,a',w2]:List B).length (1:Int)=some 1:=rfl;have qE:bf ([U,a',w2]:List B).length (2:Int)=some 2:=rfl;have cV:([U,a',w2]:List B)[1]? =some a':=rfl;have dD:([U,a',w2]:List B)[2]? =some w2:=rfl;simp only[ic,ct hlt,d,ad,hin,Y,hx,c2,hw1,j0,ak,hs,lI,t1,h_,dT,hc.1,hc.2,mm,qE,cV,dD,li]
     |false=>
      refine stop [] false (Nat.zero_le _) ?_
      simp only[ic,ct hlt,d,ad,hin,Y,hx,c2,hw1,j0,ak,hs,lI,t1,h_,dT];cases bn:U==([112,97,99,107]:B) with
      |false=>simp only[ak,Y,ms,t2,oj,t3,ad]
      |true=>
       rw[bn,Bool.true_and] at hc;simp only[ad,hc,ak,Y,ms,t2,oj,t3]
    |j+2,hn,hi,hin,li,hlt,hx,d,go,stop,ih=>
     have t1:((((j+2:Nat):Int))==1)=false:=by rw[beq_eq_false_iff_ne];omega
     have t2:decide ((((j+2:Nat):Int))>1)=true:=decide_eq_true (by omega)
     have t3:decide ((((j+2:Nat):Int))>0)=true:=decide_eq_true (by omega)
     cases hxe:x==([]:B) with
     |true=>
      refine stop r1 true mY ?_
      simp only[ic,ct hlt,d,ad,hin,Y,hx,c2,hw1,j0,ak,hs,lI,t1,ms,t2,hxe]
     |false=>
      cases hc:(U==([110,101,101,100]:B))&&(((U::more).length:Int)==2) with
      |true=>
       rw[bz] at hc;obtain⟨a',rfl⟩:∃a',more=[a']:=by
        have:more.length=1:=by have:=eq_of_beq hc.2;simp at this;omega
        match more,this with
        |[a],_=>exact⟨a,rfl⟩
       have aCK:=hm a' (by simp)
       obtain⟨n,ok,e1,e2,bE⟩:=agd a' (by omega)
       have fJ:cm 40 ns ([(bD.mk n.name n.kind n.a6)]:List bD)=some (ns++[n]):=dw (by decide) (by unfold aA;simp;omega)
       refine go (ns++[n]) bX vs (by simp;omega) (fun z hz=>by
        rcases bo.1 hz with hz|hz
        ·exact ha z hz
        ·rw[List.mem_singleton.1 hz];exact⟨by omega,by omega⟩) h1 h2 ?_
       have mm:bf ([U,a']:List B).length (1:Int)=some 1:=rfl;have cV:([U,a']:List B)[1]? =some a':=rfl;simp only[ic,ct hlt,d,ad,hin,Y,hx,c2,hw1,j0,ak,hs,lI,t1,ms,t2,hxe,oj,h_,dT,hc.1,hc.2,mm,cV,e1,fJ,li]
      |false=>
       refine stop [] false (Nat.zero_le _) ?_
       simp only[ic,ct hlt,d,ad,hin,Y,hx,c2,hw1,j0,ak,hs,lI,t1,ms,t2,hxe,oj,h_,dT];cases bn:U==([110,101,101,100]:B) with
       |false=>simp only[ak,Y,t3,ad]
       |true=>
        rw[bn,Bool.true_and] at hc;simp only[ad,hc,ak,Y,t3]
  ·have aBM:decide ((i:Int)<(lines.length:Int))=false:=decide_eq_false (by omega)
   refine⟨[],false,ns,bX,vs,⟨Nat.zero_le _,by omega,ha,h1,h2⟩,.inr (cC ?_)⟩
   simp only[ic,aBM,ak]
theorem afy(s:B)(hs:s.length<=2000000):∃(r:B) (ok:Bool) (ns:List bD) (bX vs:B),f126 ((s,()),())=some (qH r ok ns bX vs)/\qI s.length r ns bX vs:=by
 have hw:IntKind.i64.wrap (((s.length:Nat):Int)+1)=((s.length+1:Nat):Int):=b9 (by unfold aA;omega)
 have c1:=lN 10 s (by omega) (s.length+1)
 have c1:f73 ((s,((10:Int),(((s.length+1:Nat):Int),()))),())=_:=c1;obtain⟨r,ok,ns,bX,vs,hb,e⟩:=apP s.length hs (splitN 10 (s.length+1) s) (qK 10 _ s) 9 0 s [] [] [] rfl (Nat.le_refl _) (Nat.zero_le _) (fun x hx=>by cases hx) (Nat.zero_le _) (Nat.zero_le _)
 rcases e with e|e
 ·have e:lO (iD s (0:Int) [] [] [] (splitN 10 (s.length+1) s))=_:=e;refine⟨r,ok,ns,bX,vs,?_,hb⟩;simp only[f126,hw,c1,Y,e]
 ·have e:lO (iD s (0:Int) [] [] [] (splitN 10 (s.length+1) s))=_:=e;refine⟨[],false,ns,bX,vs,?_,⟨Nat.zero_le _,hb.2⟩⟩;simp only[f126,hw,c1,Y,e]
end Go.Proofs
