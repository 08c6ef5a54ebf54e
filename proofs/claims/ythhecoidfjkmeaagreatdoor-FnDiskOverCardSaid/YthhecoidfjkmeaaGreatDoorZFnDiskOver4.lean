/- FnDiskOver: the last complete root is recovered. (part 5 of 7: JkKF257, JkKPuSb, JkKF121, JkKPuSc, JkKF256, JkKF220, JkKPuSd, JkKF122v0, JkKF219, JkKF173, JkKF69, JkKPuSe, JkKF63v0, JkKPl, JkKFH64, JkKF120, JkKF83, JkKF226, JkKF181, JkKPuPa, JkKF119, JkKF225, JkK) Conditions: none beyond the statement. -/
import Derived.Test.YthhecoidfjkmeaaGreatDoorZFnDiskOver3
import Derived.Tactics
import Derived.Deep.RegionLaw
import Derived.Shelf.Abstract
import Derived.Test.YthhecoidfjkmeaaGreatDoorProg
import Derived.KernelRfl
import Derived.Shelf.LaysM
import Derived.Shelf.Strconv.Itoa3
import Derived.Shelf.Strings.IndexAnyAll
import Derived.Laws.RangeAny
import Derived.Lib.OthersKept
import Derived.Shelf.Small.Utf8
import Derived.Laws.Runes
import Derived.Laws.Cover4
import Derived.WalkMore
import Derived.Shelf.RegionOpenPlain
set_option linter.unusedSimpArgs false
set_option maxRecDepth 100000
set_option linter.unusedVariables false
namespace Go.Proofs
open Go.Jk
noncomputable abbrev auR:a8:=[(276,_r),(277,_q),(278,LQ)]
theorem DY:aT O (aZ af auR):=aY ⟨asn,asm,XB,⟨⟩⟩
abbrev yU:Shape:=⟨[aO 0 .u32,bd 5 3000320,bd 6 3000384,bd 7 3000448,aj 8,(11,.aq (.d (.int .u32))),(12,.aq (.d (.int .u32))),(13,.aq (.d (.int .u32))),aj 14],[bc 3000320 .u32 5 0,bc 3000384 .u32 6 0,bc 3000448 .u32 7 0],155⟩
abbrev Fq:List aR:=[(.exit 2,⟨[aO 0 .u32,bd 5 3000320,bd 6 3000384,bd 7 3000448,aj 8,(11,.aq (.d (.int .u32))),(12,.aq (.d (.int .u32))),(13,.aq (.d (.int .u32)))],[bc 3000320 .u32 5 0,bc 3000384 .u32 6 0,bc 3000448 .u32 7 0],155⟩)]
noncomputable def O6(y:yU.J):bP yU Fq:=
 bif(decide (y.1.2.2.2.2.2.2.2.2.1>(0:Int))) then
(bh y.2.2.2.1.length (IntKind.i64.wrap (y.1.2.2.2.2.2.2.2.2.1-(1:Int)))).bind fun a=>
(y.2.2.2.1[a]?).bind fun b=>
(bh y.2.2.2.1.length y.1.2.2.2.2.2.2.2.2.1).bind fun c=>
((y.2.2.2.1[c]?).bind fun q=>some b).bind fun d=>
 some (.inl ((y.1.1,(),(),(),y.1.2.2.2.2.1,y.1.2.2.2.2.2.1,y.1.2.2.2.2.2.2.1,y.1.2.2.2.2.2.2.2.1,(IntKind.i64.wrap (y.1.2.2.2.2.2.2.2.2.1-(1:Int))),()),y.2.1,y.2.2.1,(y.2.2.2.1.set c d),()))
else
 some (.inr ((y.1.1,(),(),(),y.1.2.2.2.2.1,y.1.2.2.2.2.2.1,y.1.2.2.2.2.2.2.1,y.1.2.2.2.2.2.2.2.1,()),y.2.1,y.2.2.1,y.2.2.2.1,()))
noncomputable def Ft:yU.J->Option (aG Fq):=bA O6
theorem afS:aV O (ap (di (ap (codeOf Tryz.f257) 1 250)) 500 1025274) (aX yU Fq Ft):=bR DY (by kernel_rfl) ag fun y=>by kernel_rfl
abbrev zX:Shape:=⟨[aO 0 .u32,bd 5 3000320,bd 6 3000384,bd 7 3000448,aj 8],[bc 3000320 .u32 5 0,bc 3000384 .u32 6 0,bc 3000448 .u32 7 0],155⟩
abbrev G0:List aR:=[(.exit 0,⟨[aO 0 .u32,bd 7 3000448],[bc 3000448 .u32 7 0],155⟩)]
noncomputable def HH(y:zX.J):bP zX G0:=
 bif(decide (y.1.2.2.2.2.1<(64:Int))) then
(bh y.2.2.2.1.length (4:Int)).bind fun a=>
(y.2.2.2.1[a]?).bind fun b=>
(f278 ((b,(6:Int),()),())).bind fun c=>
(bh y.2.2.2.1.length (4:Int)).bind fun d=>
(y.2.2.2.1[d]?).bind fun e=>
(f278 ((e,(11:Int),()),())).bind fun f=>
(bh y.2.2.2.1.length (4:Int)).bind fun g=>
(y.2.2.2.1[g]?).bind fun h=>
(f278 ((h,(25:Int),()),())).bind fun i=>
(bh y.2.2.2.1.length (4:Int)).bind fun j=>
(y.2.2.2.1[j]?).bind fun k=>
(bh y.2.2.2.1.length (5:Int)).bind fun l=>
(y.2.2.2.1[l]?).bind fun m=>
(bh y.2.2.2.1.length (4:Int)).bind fun n=>
(y.2.2.2.1[n]?).bind fun D=>
(bh y.2.2.2.1.length (6:Int)).bind fun p=>
(y.2.2.2.1[p]?).bind fun r=>
(bh y.2.2.2.1.length (7:Int)).bind fun s=>
(y.2.2.2.1[s]?).bind fun t=>
(bh y.2.2.1.length y.1.2.2.2.2.1).bind fun u=>
(y.2.2.1[u]?).bind fun v=>
(bh y.2.1.length y.1.2.2.2.2.1).bind fun w=>
(y.2.1[w]?).bind fun x=>
(bh y.2.2.2.1.length (0:Int)).bind fun z=>
(y.2.2.2.1[z]?).bind fun A=>
(f278 ((A,(2:Int),()),())).bind fun bx=>
(bh y.2.2.2.1.length (0:Int)).bind fun C=>
(y.2.2.2.1[C]?).bind fun bk=>
(f278 ((bk,(13:Int),()),())).bind fun E=>
(bh y.2.2.2.1.length (0:Int)).bind fun aW=>
(y.2.2.2.1[aW]?).bind fun G=>
(f278 ((G,(22:Int),()),())).bind fun H=>
(bh y.2.2.2.1.length (0:Int)).bind fun I=>
(y.2.2.2.1[I]?).bind fun fq=>
(bh y.2.2.2.1.length (1:Int)).bind fun K=>
(y.2.2.2.1[K]?).bind fun L=>
(bh y.2.2.2.1.length (0:Int)).bind fun fA=>
(y.2.2.2.1[fA]?).bind fun N=>
(bh y.2.2.2.1.length (2:Int)).bind fun aCe=>
(y.2.2.2.1[aCe]?).bind fun P=>
(bh y.2.2.2.1.length (1:Int)).bind fun Q=>
(y.2.2.2.1[Q]?).bind fun R=>
(bh y.2.2.2.1.length (2:Int)).bind fun S=>
(y.2.2.2.1[S]?).bind fun T=>
(Ft ((y.1.1,(),(),(),y.1.2.2.2.2.1,(IntKind.u32.wrap ((IntKind.u32.wrap ((IntKind.u32.wrap ((IntKind.u32.wrap (t+(dB .u32 (dB .u32 c.1.1 f.1.1) i.1.1)))+(dB .u32 (eW .u32 k m) (eW .u32 (dB .u32 4294967295 D) r))))+v))+x)),(dB .u32 (dB .u32 bx.1.1 E.1.1) H.1.1),(dB .u32 (dB .u32 (eW .u32 fq L) (eW .u32 N P)) (eW .u32 R T)),(7:Int),()),y.2.1,y.2.2.1,y.2.2.2.1,())).bind fun er=>
(bh er.2.2.2.1.length (4:Int)).bind fun V=>
(er.2.2.2.1[V]?).bind fun W=>
(bh er.2.2.2.1.length (4:Int)).bind fun X=>
((er.2.2.2.1[X]?).bind fun q=>some (IntKind.u32.wrap (W+er.1.2.2.2.2.2.1))).bind fun ON=>
(bh (er.2.2.2.1.set X ON).length (0:Int)).bind fun a0=>
(((er.2.2.2.1.set X ON)[a0]?).bind fun q=>some (IntKind.u32.wrap ((IntKind.u32.wrap (er.1.2.2.2.2.2.1+er.1.2.2.2.2.2.2.1))+er.1.2.2.2.2.2.2.2.1))).bind fun a1=>
 some (.inl ((er.1.1,(),(),(),(IntKind.i64.wrap (er.1.2.2.2.2.1+(1:Int))),()),er.2.1,er.2.2.1,((er.2.2.2.1.set X ON).set a0 a1),()))
else
 some (.inr ((y.1.1,(),()),y.2.2.2.1,()))
noncomputable def Hn:zX.J->Option (aG G0):=bA HH
theorem ak1:aV O (ap (codeOf Tryz.f257) 1 250) (aX zX G0 Hn):=bR DY (by kernel_rfl) (a7 afS ag) fun y=>by kernel_rfl
abbrev zo:Shape:=⟨[aO 0 .u32,bd 7 3000448,bd 15 3000960,aj 16],[bc 3000448 .u32 7 0,bc 3000960 .u32 15 0],155⟩
abbrev F5:List aR:=[(.exit 4,⟨[bd 15 3000960],[bc 3000960 .u32 15 0],155⟩)]
noncomputable def Rn(y:zo.J):bP zo F5:=
 bif(decide (y.1.2.2.2.1<(8:Int))) then
(aS y.1.1 y.1.2.2.2.1).bind fun a=>
(bh y.2.1.length y.1.2.2.2.1).bind fun b=>
(y.2.1[b]?).bind fun c=>
(cl 4 y.2.2.1 ([(IntKind.u32.wrap (a+c))]:List Int)).bind fun d=>
 some (.inl ((y.1.1,(),(),(IntKind.i64.wrap (y.1.2.2.2.1+(1:Int))),()),y.2.1,d,()))
else
 some (.inr (((),()),y.2.2.1,()))
noncomputable def Gr:zo.J->Option (aG F5):=bA Rn
theorem ai2:aV O (ap (codeOf Tryz.f257) 1 1018) (aX zo F5 Gr):=bR DY (by kernel_rfl) ag fun y=>by kernel_rfl
abbrev i257:Shape:=⟨[aO 0 .u32,aO 1 .u8],[],155⟩
abbrev Yd:Shape:=⟨[bd 4 3000256],[bc 3000256 .u32 4 0],155⟩
noncomputable def f257(a:i257.J):Option Yd.J:=
(f276 ((a.1.2.1,()),())).bind fun b=>
(f277 ((),())).bind fun c=>
(cl 4 ([]:List Int) a.1.1).bind fun d=>
(Hn ((a.1.1,(),(),(),(0:Int),()),b.2.1,c.2.1,d,())).bind fun e=>
(Gr ((e.1.1,(),(),(0:Int),()),e.2.1,([]:List Int),())).bind fun f=>
 some (((),()),f.2.1,())
noncomputable def _y:aH:=aL af Tryz.f257 i257 Yd [] f257
theorem asu:aE O 257 _y:=aM DY Tryz.func257 (by kernel_rfl) (a7 ak1 (a7 ai2 ag)) (fun y=>by kernel_rfl) fun a=>by kernel_rfl
structure cB where
 (a b c d e f g h:Int)
def cB.list(s:cB):List Int:=[s.a,s.b,s.c,s.d,s.e,s.f,s.g,s.h]
def NA(e:Int):Int:=dB .u32 (dB .u32 (k8 e 6) (k8 e 11)) (k8 e 25)
def NB(a:Int):Int:=dB .u32 (dB .u32 (k8 a 2) (k8 a 13)) (k8 a 22)
def Nz(e f g:Int):Int:=dB .u32 (eW .u32 e f) (eW .u32 (dB .u32 4294967295 e) g)
def MF(a b c:Int):Int:=dB .u32 (dB .u32 (eW .u32 a b) (eW .u32 a c)) (eW .u32 b c)
def Ef(s:cB)(k w:Int):Int:=IntKind.u32.wrap (IntKind.u32.wrap (IntKind.u32.wrap (IntKind.u32.wrap (s.h+NA s.e)+Nz s.e s.f s.g)+k)+w)
def xd(k w:Int)(s:cB):cB:=⟨IntKind.u32.wrap (Ef s k w+IntKind.u32.wrap (NB s.a+MF s.a s.b s.c)),s.a,s.b,s.c,IntKind.u32.wrap (s.d+Ef s k w),s.e,s.f,s.g⟩
def mW(h:cB)(w:List Int):Nat->cB
 |0=>h
 |i+1=>xd (gb i' i) (gb w i) (mW h w i)
def DP(h s:cB):cB:=⟨IntKind.u32.wrap (h.a+s.a),IntKind.u32.wrap (h.b+s.b),IntKind.u32.wrap (h.c+s.c),IntKind.u32.wrap (h.d+s.d),IntKind.u32.wrap (h.e+s.e),IntKind.u32.wrap (h.f+s.f),IntKind.u32.wrap (h.g+s.g),IntKind.u32.wrap (h.h+s.h)⟩
def xu(h:cB)(b:List Int):cB:=DP h (mW h (cG b 64) 64)
theorem aml(x y z:Int):IntKind.u32.wrap (IntKind.u32.wrap (x+y)+z)=IntKind.u32.wrap (x+IntKind.u32.wrap (y+z)):=by
 simp only[IntKind.wrap_u32];omega
theorem cB.i0(s:cB):bh s.list.length 0=some 0:=rfl
theorem cB.i1(s:cB):bh s.list.length 1=some 1:=rfl
theorem cB.i2(s:cB):bh s.list.length 2=some 2:=rfl
theorem cB.i4(s:cB):bh s.list.length 4=some 4:=rfl
theorem cB.i5(s:cB):bh s.list.length 5=some 5:=rfl
theorem cB.i6(s:cB):bh s.list.length 6=some 6:=rfl
theorem cB.i7(s:cB):bh s.list.length 7=some 7:=rfl
theorem cB.g0(s:cB):s.list[0]? =some s.a:=rfl
theorem cB.g1(s:cB):s.list[1]? =some s.b:=rfl
theorem cB.g2(s:cB):s.list[2]? =some s.c:=rfl
theorem cB.g4(s:cB):s.list[4]? =some s.e:=rfl
theorem cB.g5(s:cB):s.list[5]? =some s.f:=rfl
theorem cB.g6(s:cB):s.list[6]? =some s.g:=rfl
theorem cB.g7(s:cB):s.list[7]? =some s.h:=rfl
def gR(s:cB):Nat->List Int
 |0=>s.list
 |1=>[s.a,s.b,s.c,s.d,s.e,s.f,s.g,s.g]
 |2=>[s.a,s.b,s.c,s.d,s.e,s.f,s.f,s.g]
 |3=>[s.a,s.b,s.c,s.d,s.e,s.e,s.f,s.g]
 |4=>[s.a,s.b,s.c,s.d,s.d,s.e,s.f,s.g]
 |5=>[s.a,s.b,s.c,s.c,s.d,s.e,s.f,s.g]
 |6=>[s.a,s.b,s.b,s.c,s.d,s.e,s.f,s.g]
 |_=>[s.a,s.a,s.b,s.c,s.d,s.e,s.f,s.g]
theorem IG:i'.length=64:=by decide
theorem aio(h:cB)(b:List Int)(hb:sr b):f257 ((h.list,(b,())),())=some (((),()),((xu h b).list,())):=by
 have mj:=ain b hb;have t2:=fun x=>nu x 2 (by simp[e']);have t6:=fun x=>nu x 6 (by simp[e']);have t11:=fun x=>nu x 11 (by simp[e'])
 have t13:=fun x=>nu x 13 (by simp[e']);have t22:=fun x=>nu x 22 (by simp[e']);have t25:=fun x=>nu x 25 (by simp[e'])
 have gI:∀(q:List Int) (i iS jx p3:Int) (w:List Int) (s:cB),Ft ((q,((),((),((),(i,(iS,(jx,(p3,((7:Int),()))))))))),(w,(i',(s.list,()))))=
   some ((q,((),((),((),(i,(iS,(jx,(p3,())))))))),(w,(i',(([s.a,s.a,s.b,s.c,s.d,s.e,s.f,s.g]:List Int),())))):=by
  intro q i iS jx p3 w s;refine ga (g:=O6) (fun j=>((q,((),((),((),(i,(iS,(jx,(p3,(((7-j:Nat):Int),()))))))))),(w,(i',(gR s j,()))))) 7 (fun j hj=>?_) rfl 7 0 rfl
  have:j=0\/j=1\/j=2\/j=3\/j=4\/j=5\/j=6:=by omega
  rcases this with rfl|rfl|rfl|rfl|rfl|rfl|rfl<;>rfl
 have b5:f277 ((),())=some (((),()),(i',())):=rfl;have hc:cl 4 ([]:List Int) h.list=some h.list:=rfl;have aI:Hn ((h.list,((),((),((),((0:Int),()))))),(cG b 64,(i',(h.list,()))))=some ((h.list,((),())),((mW h (cG b 64) 64).list,())):=by
  refine ga (g:=HH) (fun i=>((h.list,((),((),((),((i:Int),()))))),(cG b 64,(i',((mW h (cG b 64) i).list,()))))) 64 (fun i hi=>?_) rfl 64 0 rfl
  have hl:decide ((i:Int)<64)=true:=by simp;omega
  have i1:bh i'.length (i:Int)=some i:=fQ (by rw[IG];exact hi)
  have g1:=mE (b:=i') (j:=i) (by rw[IG];exact hi)
  have i2:bh (cG b 64).length (i:Int)=some i:=fQ (by rw[oB];exact hi)
  have g2:=mE (b:=cG b 64) (j:=i) (by rw[oB];exact hi)
  have hr:mW h (cG b 64) (i+1)=xd (gb i' i) (gb (cG b 64) i) (mW h (cG b 64) i):=rfl;generalize mW h (cG b 64) i=s at hr ⊢;simp only[HH,hl,ad,cB.i0,cB.i1,cB.i2,cB.i4,cB.i5,cB.i6,cB.i7,cB.g0,cB.g1,cB.g2,cB.g4,cB.g5,cB.g6,cB.g7,i1,g1,i2,g2,Y,t2,t6,t11,t13,t22,t25,gI,wp (i:=i) (by omega),hr]
  have e:∀x y:Int,bh ([s.a,s.a,s.b,s.c,s.d,s.e,s.f,s.g]:List Int).length 4=some 4/\([s.a,s.a,s.b,s.c,s.d,s.e,s.f,s.g]:List Int)[4]? =some s.d/\
   bh (([s.a,s.a,s.b,s.c,s.d,s.e,s.f,s.g]:List Int).set 4 x).length 0=some 0/\(([s.a,s.a,s.b,s.c,s.d,s.e,s.f,s.g]:List Int).set 4 x)[0]? =some s.a:=fun x y=>⟨rfl,rfl,rfl,rfl⟩
  simp only[(e 0 0).1,(e 0 0).2.1,(e _ 0).2.2.1,(e _ 0).2.2.2,Y,xd,Ef,NA,NB,Nz,MF,aml];rfl
 have aJ:Gr ((h.list,((),((),((0:Int),())))),((mW h (cG b 64) 64).list,(([]:List Int),())))=some (((),()),((xu h b).list,())):=by
  unfold xu;generalize mW h (cG b 64) 64=s;refine ga (g:=Rn) (fun i=>((h.list,((),((),((i:Int),())))),(s.list,((DP h s).list.take i,())))) 8 (fun i hi=>?_) rfl 8 0 rfl
  have:i=0\/i=1\/i=2\/i=3\/i=4\/i=5\/i=6\/i=7:=by omega
  rcases this with rfl|rfl|rfl|rfl|rfl|rfl|rfl|rfl<;>rfl
 simp only[f257,mj,b5,hc,Y,aI,aJ]
noncomputable abbrev avU:a8:=[(171,aaa)]
theorem uw:aT O (aZ af avU):=aY ⟨z171,⟨⟩⟩
abbrev y7:Shape:=⟨[aO 1 .u8,eX 2 2 .u32,eX 4 4 .u32,eX 5 5 .u32,aj 6,aj 27,aO 36 .u8,aj 37,aj 38],[(2,.row .u32,.same),(4,.row .u32,.same),(5,.row .u32,.same)],208⟩
abbrev FM:List aR:=[(.exit 2,⟨[aO 1 .u8,eX 2 2 .u32,eX 4 4 .u32,eX 5 5 .u32,aj 27],[(2,.row .u32,.same),(4,.row .u32,.same),(5,.row .u32,.same)],208⟩)]
noncomputable def qO(y:y7.J):bP y7 FM:=
 bif(decide (y.1.2.2.2.2.2.2.2.2.1<y.1.2.2.2.2.2.2.2.1)) then
(aS y.1.2.2.2.2.2.2.1 y.1.2.2.2.2.2.2.2.2.1).bind fun a=>
((long 64 y.2.2.2.1).bind fun q=>bh q.length y.1.2.2.2.2.1).bind fun b=>
(y.2.2.2.1[b]?).bind fun c=>
(l4 .u32 c (8:Int)).bind fun d=>
((long 64 y.2.2.2.1).bind fun q=>bh q.length y.1.2.2.2.2.1).bind fun e=>
((y.2.2.2.1[e]?).bind fun q=>some (is .u32 d (IntKind.u32.wrap a))).bind fun f=>
 some (.inl ((y.1.1,(),(),(),y.1.2.2.2.2.1,y.1.2.2.2.2.2.1,y.1.2.2.2.2.2.2.1,y.1.2.2.2.2.2.2.2.1,(IntKind.i64.wrap (y.1.2.2.2.2.2.2.2.2.1+(1:Int))),()),y.2.1,y.2.2.1,(y.2.2.2.1.set e f),()))
else
 some (.inr ((y.1.1,(),(),(),y.1.2.2.2.2.2.1,()),y.2.1,y.2.2.1,y.2.2.2.1,()))
noncomputable def FP:y7.J->Option (aG FM):=bA qO
theorem ahA:aV O (ap (di (ap (codeOf Tryz.f121) 1 58)) 116 14950) (aX y7 FM FP):=bR uw (by kernel_rfl) ag fun y=>by kernel_rfl
abbrev Be:Shape:=⟨[aO 1 .u8,eX 2 2 .u32,eX 4 4 .u32,eX 5 5 .u32,aj 27],[(2,.row .u32,.same),(4,.row .u32,.same),(5,.row .u32,.same)],208⟩
abbrev Iz:List aR:=[(.exit 0,⟨[eX 2 2 .u32,eX 4 4 .u32,eX 5 5 .u32],[(2,.row .u32,.same),(4,.row .u32,.same),(5,.row .u32,.same)],208⟩)]
noncomputable def Jw(y:Be.J):bP Be Iz:=
 bif(decide (y.1.2.2.2.2.1<(16:Int))) then
(bq y.1.1 (IntKind.i64.wrap ((4:Int)*y.1.2.2.2.2.1)) (IntKind.i64.wrap ((IntKind.i64.wrap ((4:Int)*y.1.2.2.2.2.1))+(4:Int)))).bind fun a=>
(FP ((y.1.1,(),(),(),y.1.2.2.2.2.1,y.1.2.2.2.2.1,a,(a.length:Int),(0:Int),()),y.2.1,y.2.2.1,y.2.2.2.1,())).bind fun b=>
 some (.inl ((b.1.1,(),(),(),(IntKind.i64.wrap (b.1.2.2.2.2.1+(1:Int))),()),b.2.1,b.2.2.1,b.2.2.2.1,()))
else
 some (.inr (((),(),(),()),y.2.1,y.2.2.1,y.2.2.2.1,()))
noncomputable def Jb:Be.J->Option (aG Iz):=bA Jw
theorem anB:aV O (ap (codeOf Tryz.f121) 1 58) (aX Be Iz Jb):=bR uw (by kernel_rfl) (a7 ahA ag) fun y=>by kernel_rfl
abbrev Ab:Shape:=⟨[eX 2 2 .u32,eX 4 4 .u32,eX 5 5 .u32,aj 9],[(2,.row .u32,.same),(4,.row .u32,.same),(5,.row .u32,.same)],208⟩
abbrev G8:List aR:=[(.exit 4,⟨[eX 2 2 .u32,eX 4 4 .u32,eX 5 5 .u32],[(2,.row .u32,.same),(4,.row .u32,.same),(5,.row .u32,.same)],208⟩)]
noncomputable def HK(y:Ab.J):bP Ab G8:=
 bif(decide (y.1.2.2.2.1<(64:Int))) then
((long 64 y.2.2.2.1).bind fun q=>bh q.length (IntKind.i64.wrap (y.1.2.2.2.1-(15:Int)))).bind fun a=>
(y.2.2.2.1[a]?).bind fun b=>
(f171 ((b,(7:Int),()),())).bind fun c=>
((long 64 y.2.2.2.1).bind fun q=>bh q.length (IntKind.i64.wrap (y.1.2.2.2.1-(15:Int)))).bind fun d=>
(y.2.2.2.1[d]?).bind fun e=>
(f171 ((e,(18:Int),()),())).bind fun f=>
((long 64 y.2.2.2.1).bind fun q=>bh q.length (IntKind.i64.wrap (y.1.2.2.2.1-(15:Int)))).bind fun g=>
(y.2.2.2.1[g]?).bind fun h=>
(fC .u32 h (3:Int)).bind fun i=>
((long 64 y.2.2.2.1).bind fun q=>bh q.length (IntKind.i64.wrap (y.1.2.2.2.1-(2:Int)))).bind fun j=>
(y.2.2.2.1[j]?).bind fun k=>
(f171 ((k,(17:Int),()),())).bind fun l=>
((long 64 y.2.2.2.1).bind fun q=>bh q.length (IntKind.i64.wrap (y.1.2.2.2.1-(2:Int)))).bind fun m=>
(y.2.2.2.1[m]?).bind fun n=>
(f171 ((n,(19:Int),()),())).bind fun D=>
((long 64 y.2.2.2.1).bind fun q=>bh q.length (IntKind.i64.wrap (y.1.2.2.2.1-(2:Int)))).bind fun p=>
(y.2.2.2.1[p]?).bind fun r=>
(fC .u32 r (10:Int)).bind fun s=>
((long 64 y.2.2.2.1).bind fun q=>bh q.length (IntKind.i64.wrap (y.1.2.2.2.1-(16:Int)))).bind fun t=>
(y.2.2.2.1[t]?).bind fun u=>
((long 64 y.2.2.2.1).bind fun q=>bh q.length (IntKind.i64.wrap (y.1.2.2.2.1-(7:Int)))).bind fun v=>
(y.2.2.2.1[v]?).bind fun w=>
((long 64 y.2.2.2.1).bind fun q=>bh q.length y.1.2.2.2.1).bind fun x=>
((y.2.2.2.1[x]?).bind fun q=>some (IntKind.u32.wrap ((IntKind.u32.wrap ((IntKind.u32.wrap (u+(dB .u32 (dB .u32 c.1.1 f.1.1) i)))+w))+(dB .u32 (dB .u32 l.1.1 D.1.1) s)))).bind fun z=>
 some (.inl (((),(),(),(IntKind.i64.wrap (y.1.2.2.2.1+(1:Int))),()),y.2.1,y.2.2.1,(y.2.2.2.1.set x z),()))
else
 some (.inr (((),(),(),()),y.2.1,y.2.2.1,y.2.2.2.1,()))
noncomputable def Hv:Ab.J->Option (aG G8):=bA HK
theorem alk:aV O (ap (codeOf Tryz.f121) 1 122) (aX Ab G8 Hv):=bR uw (by kernel_rfl) ag fun y=>by kernel_rfl
abbrev zw:Shape:=⟨[eX 2 2 .u32,eX 4 4 .u32,eX 5 5 .u32,(12,.aq (.d (.int .u32))),(13,.aq (.d (.int .u32))),(14,.aq (.d (.int .u32))),(15,.aq (.d (.int .u32))),(16,.aq (.d (.int .u32))),(17,.aq (.d (.int .u32))),(18,.aq (.d (.int .u32))),(19,.aq (.d (.int .u32))),aj 122],[(2,.row .u32,.same),(4,.row .u32,.same),(5,.row .u32,.same)],208⟩
abbrev Ga:List aR:=[(.exit 6,⟨[eX 2 2 .u32,eX 4 4 .u32,(12,.aq (.d (.int .u32))),(13,.aq (.d (.int .u32))),(14,.aq (.d (.int .u32))),(15,.aq (.d (.int .u32))),(16,.aq (.d (.int .u32))),(17,.aq (.d (.int .u32))),(18,.aq (.d (.int .u32))),(19,.aq (.d (.int .u32)))],[(2,.row .u32,.same),(4,.row .u32,.same)],208⟩)]
noncomputable def zJ(y:zw.J):bP zw Ga:=
 bif(decide (y.1.2.2.2.2.2.2.2.2.2.2.2.1<(64:Int))) then
(f171 ((y.1.2.2.2.2.2.2.2.1,(6:Int),()),())).bind fun a=>
(f171 ((y.1.2.2.2.2.2.2.2.1,(11:Int),()),())).bind fun b=>
(f171 ((y.1.2.2.2.2.2.2.2.1,(25:Int),()),())).bind fun c=>
(aS i' y.1.2.2.2.2.2.2.2.2.2.2.2.1).bind fun d=>
((long 64 y.2.2.2.1).bind fun q=>bh q.length y.1.2.2.2.2.2.2.2.2.2.2.2.1).bind fun e=>
(y.2.2.2.1[e]?).bind fun f=>
(f171 ((y.1.2.2.2.1,(2:Int),()),())).bind fun g=>
(f171 ((y.1.2.2.2.1,(13:Int),()),())).bind fun h=>
(f171 ((y.1.2.2.2.1,(22:Int),()),())).bind fun i=>
 some (.inl (((),(),(),(IntKind.u32.wrap ((IntKind.u32.wrap ((IntKind.u32.wrap ((IntKind.u32.wrap ((IntKind.u32.wrap (y.1.2.2.2.2.2.2.2.2.2.2.1+(dB .u32 (dB .u32 a.1.1 b.1.1) c.1.1)))+(dB .u32 (eW .u32 y.1.2.2.2.2.2.2.2.1 y.1.2.2.2.2.2.2.2.2.1) (eW .u32 (dB .u32 4294967295 y.1.2.2.2.2.2.2.2.1) y.1.2.2.2.2.2.2.2.2.2.1))))+d))+f))+(IntKind.u32.wrap ((dB .u32 (dB .u32 g.1.1 h.1.1) i.1.1)+(dB .u32 (dB .u32 (eW .u32 y.1.2.2.2.1 y.1.2.2.2.2.1) (eW .u32 y.1.2.2.2.1 y.1.2.2.2.2.2.1)) (eW .u32 y.1.2.2.2.2.1 y.1.2.2.2.2.2.1)))))),y.1.2.2.2.1,y.1.2.2.2.2.1,y.1.2.2.2.2.2.1,(IntKind.u32.wrap (y.1.2.2.2.2.2.2.1+(IntKind.u32.wrap ((IntKind.u32.wrap ((IntKind.u32.wrap ((IntKind.u32.wrap (y.1.2.2.2.2.2.2.2.2.2.2.1+(dB .u32 (dB .u32 a.1.1 b.1.1) c.1.1)))+(dB .u32 (eW .u32 y.1.2.2.2.2.2.2.2.1 y.1.2.2.2.2.2.2.2.2.1) (eW .u32 (dB .u32 4294967295 y.1.2.2.2.2.2.2.2.1) y.1.2.2.2.2.2.2.2.2.2.1))))+d))+f)))),y.1.2.2.2.2.2.2.2.1,y.1.2.2.2.2.2.2.2.2.1,y.1.2.2.2.2.2.2.2.2.2.1,(IntKind.i64.wrap (y.1.2.2.2.2.2.2.2.2.2.2.2.1+(1:Int))),()),y.2.1,y.2.2.1,y.2.2.2.1,()))
else
 some (.inr (((),(),y.1.2.2.2.1,y.1.2.2.2.2.1,y.1.2.2.2.2.2.1,y.1.2.2.2.2.2.2.1,y.1.2.2.2.2.2.2.2.1,y.1.2.2.2.2.2.2.2.2.1,y.1.2.2.2.2.2.2.2.2.2.1,y.1.2.2.2.2.2.2.2.2.2.2.1,()),y.2.1,y.2.2.1,()))
noncomputable def Gv:zw.J->Option (aG Ga):=bA zJ
theorem ajj:aV O (ap (codeOf Tryz.f121) 1 1018) (aX zw Ga Gv):=bR uw (by kernel_rfl) ag fun y=>by kernel_rfl
abbrev zv:Shape:=⟨[eX 2 2 .u32,eX 4 4 .u32,ck 195 [.d (.int .u32),.d (.int .u32),.d (.int .u32),.d (.int .u32),.d (.int .u32),.d (.int .u32),.d (.int .u32),.d (.int .u32)],aj 196],[(2,.row .u32,.same),(4,.row .u32,.same)],208⟩
abbrev F':List aR:=[(.exit 8,⟨[eX 2 2 .u32,eX 4 4 .u32],[(2,.row .u32,.same),(4,.row .u32,.same)],208⟩)]
noncomputable def Ro(y:zv.J):bP zv F':=
 bif(decide (y.1.2.2.2.1<(8:Int))) then
(aS ([y.1.2.2.1.1,y.1.2.2.1.2.1,y.1.2.2.1.2.2.1,y.1.2.2.1.2.2.2.1,y.1.2.2.1.2.2.2.2.1,y.1.2.2.1.2.2.2.2.2.1,y.1.2.2.1.2.2.2.2.2.2.1,y.1.2.2.1.2.2.2.2.2.2.2.1]:List Int) y.1.2.2.2.1).bind fun a=>
((long 8 y.2.1).bind fun q=>bh q.length y.1.2.2.2.1).bind fun b=>
(y.2.1[b]?).bind fun c=>
((long 8 y.2.1).bind fun q=>bh q.length y.1.2.2.2.1).bind fun d=>
((y.2.1[d]?).bind fun q=>some (IntKind.u32.wrap (c+a))).bind fun e=>
 some (.inl (((),(),(y.1.2.2.1.1,y.1.2.2.1.2.1,y.1.2.2.1.2.2.1,y.1.2.2.1.2.2.2.1,y.1.2.2.1.2.2.2.2.1,y.1.2.2.1.2.2.2.2.2.1,y.1.2.2.1.2.2.2.2.2.2.1,y.1.2.2.1.2.2.2.2.2.2.2.1,()),(IntKind.i64.wrap (y.1.2.2.2.1+(1:Int))),()),(y.2.1.set d e),y.2.2.1,()))
else
 some (.inr (((),(),()),y.2.1,y.2.2.1,()))
noncomputable def Gu:zv.J->Option (aG F'):=bA Ro
theorem aji:aV O (ap (codeOf Tryz.f121) 1 2042) (aX zv F' Gu):=bR uw (by kernel_rfl) ag fun y=>by kernel_rfl
abbrev i121:Shape:=⟨[ck 0 [.d (.int .u32),.d (.int .u32),.d (.int .u32),.d (.int .u32),.d (.int .u32),.d (.int .u32),.d (.int .u32),.d (.int .u32)],aO 1 .u8],[],208⟩
abbrev Zx:Shape:=⟨[eX 4 4 .u32],[(4,.rF .u32 8,.same)],208⟩
noncomputable def f121(a:i121.J):Option Zx.J:=
(Jb ((a.1.2.1,(),(),(),(0:Int),()),([a.1.1.1,a.1.1.2.1,a.1.1.2.2.1,a.1.1.2.2.2.1,a.1.1.2.2.2.2.1,a.1.1.2.2.2.2.2.1,a.1.1.2.2.2.2.2.2.1,a.1.1.2.2.2.2.2.2.2.1]:List Int),(List.replicate 8 (0:Int)),(List.replicate 64 (0:Int)),())).bind fun b=>
(Hv (((),(),(),(16:Int),()),b.2.1,b.2.2.1,b.2.2.2.1,())).bind fun c=>
((long 8 c.2.1).bind fun q=>bh q.length (0:Int)).bind fun d=>
(c.2.1[d]?).bind fun e=>
((long 8 c.2.1).bind fun q=>bh q.length (1:Int)).bind fun f=>
(c.2.1[f]?).bind fun g=>
((long 8 c.2.1).bind fun q=>bh q.length (2:Int)).bind fun h=>
(c.2.1[h]?).bind fun i=>
((long 8 c.2.1).bind fun q=>bh q.length (3:Int)).bind fun j=>
(c.2.1[j]?).bind fun k=>
((long 8 c.2.1).bind fun q=>bh q.length (4:Int)).bind fun l=>
(c.2.1[l]?).bind fun m=>
((long 8 c.2.1).bind fun q=>bh q.length (5:Int)).bind fun n=>
(c.2.1[n]?).bind fun D=>
((long 8 c.2.1).bind fun q=>bh q.length (6:Int)).bind fun p=>
(c.2.1[p]?).bind fun r=>
((long 8 c.2.1).bind fun q=>bh q.length (7:Int)).bind fun s=>
(c.2.1[s]?).bind fun t=>
(Gv (((),(),(),e,g,i,k,m,D,r,t,(0:Int),()),c.2.1,c.2.2.1,c.2.2.2.1,())).bind fun u=>
(Gu (((),(),(u.1.2.2.1,u.1.2.2.2.1,u.1.2.2.2.2.1,u.1.2.2.2.2.2.1,u.1.2.2.2.2.2.2.1,u.1.2.2.2.2.2.2.2.1,u.1.2.2.2.2.2.2.2.2.1,u.1.2.2.2.2.2.2.2.2.2.1,()),(0:Int),()),u.2.1,u.2.2.1,())).bind fun v=>
(long 8 v.2.1).bind fun w=>
(long 8 v.2.2.1).bind fun x=>
((long 8 ([(w.getD 0 (0:Int)),(w.getD 1 (0:Int)),(w.getD 2 (0:Int)),(w.getD 3 (0:Int)),(w.getD 4 (0:Int)),(w.getD 5 (0:Int)),(w.getD 6 (0:Int)),(w.getD 7 (0:Int))]:List Int)).bind fun q=>some (q,())).bind fun z=>some (((),()),z)
noncomputable def aaC:aH:=aL af Tryz.f121 i121 Zx [] f121
theorem atd:aE O 121 aaC:=aM uw Tryz.func121 (by kernel_rfl) (a7 anB (a7 alk (a7 ajj (a7 aji ag)))) (fun y=>by kernel_rfl) fun a=>by kernel_rfl
def gH(ws:List Int)(v:Int):List Int:=ws++v::List.replicate (63-ws.length) 0
def kQ(ws:List Int):List Int:=ws++List.replicate (64-ws.length) 0
theorem Xq{ws:List Int}(h:ws.length<64):kQ ws=gH ws 0:=by
 unfold kQ gH;rw[show 64-ws.length=(63-ws.length)+1 by omega];rfl
theorem WN{ws:List Int}(h:ws.length<64)(v:Int):gH ws v=kQ (ws++[v]):=by
 unfold kQ gH;rw[dx,show 64-(ws.length+[v].length)=63-ws.length from by show 64-(ws.length+1)=_;omega,List.append_assoc]
 rfl
theorem UG{ws:List Int}(h:ws.length<64)(v:Int):(gH ws v).length=64:=by unfold gH;simp;omega
theorem Bn{aD:Type}{n:Nat}{xs:List aD}(h:xs.length=n):long n xs=some xs:=by unfold long;rw[if_pos h]
theorem UH{ws:List Int}(h:ws.length<64)(v:Int){k:Nat}(hk:k<64):((long 64 (gH ws v)).bind fun q=>bh q.length (k:Int))=some k:=by
 rw[Bn (UG h v)];exact fQ (by rw[UG h];exact hk)
theorem ww(ws:List Int)(v:Int):(gH ws v)[ws.length]? =some v:=by unfold gH;rw[List.getElem?_append_right (Nat.le_refl _)];simp
theorem B1{ws:List Int}{v:Int}{k:Nat}(h:k<ws.length):(gH ws v)[k]? =some (gb ws k):=by
 unfold gH;rw[List.getElem?_append_left h];exact mE h
theorem wv(ws:List Int)(v u:Int):(gH ws v).set ws.length u=gH ws u:=by unfold gH;rw[List.set_append_right _ _ (Nat.le_refl _)];simp
theorem arc(b:List Int):∀(ws:List Int) (i:Nat) (c0 c1 c2 c3:Int) (r0 r1:List Int),ws.length=i->i<64->
  FP ((b,((),((),((),((i:Int),((i:Int),(([c0,c1,c2,c3]:List Int),((([c0,c1,c2,c3]:List Int).length:Int),((0:Int),()))))))))),(r0,(r1,(gH ws 0,()))))=
  some ((b,((),((),((),((i:Int),()))))),(r0,(r1,(gH ws (hM (hM (hM (hM 0 c0) c1) c2) c3),())))):=by
 intro ws i c0 c1 c2 c3 r0 r1 hw hi;subst hw;refine ga (g:=qO) (fun j=>((b,((),((),((),((ws.length:Int),((ws.length:Int),(([c0,c1,c2,c3]:List Int),((([c0,c1,c2,c3]:List Int).length:Int),((j:Int),()))))))))),
  (r0,(r1,(gH ws (match j with|0=>0|1=>hM 0 c0|2=>hM (hM 0 c0) c1|3=>hM (hM (hM 0 c0) c1) c2|_=>hM (hM (hM (hM 0 c0) c1) c2) c3),()))))) 4 (fun j hj=>?_) ?_ 4 0 rfl
 ·have hx:∀v:Int,((long 64 (gH ws v)).bind fun q=>bh q.length (ws.length:Int))=some ws.length:=fun v=>UH hi v hi
  have:j=0\/j=1\/j=2\/j=3:=by omega
  have n0:IntKind.i64.wrap (((0:Nat):Int)+1)=((0+1:Nat):Int):=rfl;have n1:IntKind.i64.wrap (((1:Nat):Int)+1)=((1+1:Nat):Int):=rfl;have n2:IntKind.i64.wrap (((2:Nat):Int)+1)=((2+1:Nat):Int):=rfl;have je:IntKind.i64.wrap (((3:Nat):Int)+1)=((3+1:Nat):Int):=rfl;have c:∀k:Nat,k<4->decide (((k:Nat):Int)<(([c0,c1,c2,c3]:List Int).length:Int))=true:=fun k hk=>by simp;omega
  have fy:aS ([c0,c1,c2,c3]:List Int) ((0:Nat):Int)=some c0:=rfl;have eC:aS ([c0,c1,c2,c3]:List Int) ((1:Nat):Int)=some c1:=rfl;have gn:aS ([c0,c1,c2,c3]:List Int) ((2:Nat):Int)=some c2:=rfl;have jY:aS ([c0,c1,c2,c3]:List Int) ((3:Nat):Int)=some c3:=rfl;rcases this with rfl|rfl|rfl|rfl
  ·simp only[qO,c 0 (by omega),ad,hx,ww,wv,Y,xc,n0,fy];rfl
  ·simp only[qO,c 1 (by omega),ad,hx,ww,wv,Y,xc,n1,eC];rfl
  ·simp only[qO,c 2 (by omega),ad,hx,ww,wv,Y,xc,n2,gn];rfl
  ·simp only[qO,c 3 (by omega),ad,hx,ww,wv,Y,xc,je,jY];rfl
 ·have:decide (((4:Nat):Int)<(([c0,c1,c2,c3]:List Int).length:Int))=false:=rfl;simp only[qO,this,ak]
theorem arh(b:List Int)(hb:sr b):∀r0 r1:List Int,Jb ((b,((),((),((),((0:Int),()))))),(r0,(r1,(List.replicate 64 (0:Int),()))))=some (((),((),((),()))),(r0,(r1,(kQ (cG b 16),())))):=by
 intro r0 r1;refine ga (g:=Jw) (fun i=>((b,((),((),((),((i:Int),()))))),(r0,(r1,(kQ (cG b i),()))))) 16 (fun i hi=>?_) rfl 16 0 rfl
 have hl:decide ((i:Int)<16)=true:=by simp;omega
 have hlen:=oB b i;have aa:decide (i<16)=true:=by simpa using hi
 have nk:IntKind.i64.wrap (((4*i:Nat):Int)+4)=((4*i+4:Nat):Int):=by have:=lv (i:=i) (by omega) 4 (by omega);rwa[uB (by omega)] at this
 have hs:bq b ((4*i:Nat):Int) ((4*i+4:Nat):Int)=some [gb b (4*i),gb b (4*i+1),gb b (4*i+2),gb b (4*i+3)]:=by
  rw[qY (by omega) (by rw[hb.1];omega)]
  congr 1
  apply List.ext_getElem?;intro j;rw[List.getElem?_drop,List.getElem?_take];by_cases hj:j<4
  ·rw[if_pos (by omega),mE (by rw[hb.1];omega)]
   have:j=0\/j=1\/j=2\/j=3:=by omega
   rcases this with rfl|rfl|rfl|rfl<;>rfl
  ·rw[if_neg (by omega)]
   rw[List.getElem?_eq_none (by simp;omega)]
 have hw:=amn (hb.qC (j:=4*i) (by omega)) (hb.qC (j:=4*i+1) (by omega)) (hb.qC (j:=4*i+2) (by omega)) (hb.qC (j:=4*i+3) (by omega))
 have EC:=arc b (cG b i) i (gb b (4*i)) (gb b (4*i+1)) (gb b (4*i+2)) (gb b (4*i+3)) r0 r1 hlen (by omega)
 rw[hw] at EC;have hf:=Xq (ws:=cG b i) (by omega)
 have hn:kQ (cG b (i+1))=gH (cG b i) (wd (gb b (4*i)) (gb b (4*i+1)) (gb b (4*i+2)) (gb b (4*i+3))):=by rw[WN (by omega)];simp only[cG,aa,ad]
 simp only[Jw,hl,ad,uB (i:=i) (by omega),nk,hs,Y,hf,EC,hn,wp (i:=i) (by omega)]
theorem arf(b:List Int):∀r0 r1:List Int,Hv (((),((),((),((16:Int),())))),(r0,(r1,(kQ (cG b 16),()))))=some (((),((),((),()))),(r0,(r1,(kQ (cG b 64),())))):=by
 have t2:=fun x=>ib x 2 (by simp[e']);have t6:=fun x=>ib x 6 (by simp[e']);have t11:=fun x=>ib x 11 (by simp[e'])
 have t13:=fun x=>ib x 13 (by simp[e']);have t22:=fun x=>ib x 22 (by simp[e']);have t25:=fun x=>ib x 25 (by simp[e'])
 have t7:=fun x=>ib x 7 (by simp[e']);have t18:=fun x=>ib x 18 (by simp[e']);have t17:=fun x=>ib x 17 (by simp[e']);have t19:=fun x=>ib x 19 (by simp[e'])
 intro r0 r1;refine ga (g:=HK) (fun i=>(((),((),((),(((16+i:Nat):Int),())))),(r0,(r1,(kQ (cG b (16+i)),()))))) 48 (fun i hi=>?_) rfl 48 0 rfl
 have hl:decide (((16+i:Nat):Int)<64)=true:=by simp;omega
 have hlen:=oB b (16+i);have aa:decide (16+i<16)=false:=by simp
 have hf:=Xq (ws:=cG b (16+i)) (by omega)
 have hs:kQ (cG b (16+(i+1)))=gH (cG b (16+i)) (xg (cG b (16+i)) (16+i)):=by
  show kQ (cG b ((16+i)+1))=_;rw[WN (by omega)];simp only[cG,aa,ak]
 have azw:=qF (i:=16+i) (q:=15) 15 rfl (by omega) (by omega)
 have e2:=qF (i:=16+i) (q:=2) 2 rfl (by omega) (by omega)
 have azv:=qF (i:=16+i) (q:=16) 16 rfl (by omega) (by omega)
 have mn:=qF (i:=16+i) (q:=7) 7 rfl (by omega) (by omega)
 have hx:∀k:Nat,k<64->((long 64 (gH (cG b (16+i)) 0)).bind fun q=>bh q.length (k:Int))=some k:=fun k hk=>UH (by omega) _ hk
 have g15:=B1 (ws:=cG b (16+i)) (v:=0) (k:=16+i-15) (by omega)
 have g2:=B1 (ws:=cG b (16+i)) (v:=0) (k:=16+i-2) (by omega)
 have g16:=B1 (ws:=cG b (16+i)) (v:=0) (k:=16+i-16) (by omega)
 have g7:=B1 (ws:=cG b (16+i)) (v:=0) (k:=16+i-7) (by omega)
 have lA:(gH (cG b (16+i)) 0)[16+i]? =some 0:=by have:=ww (cG b (16+i)) 0;rwa[hlen] at this
 have gs:∀u,(gH (cG b (16+i)) 0).set (16+i) u=gH (cG b (16+i)) u:=fun u=>by have:=wv (cG b (16+i)) 0 u;rwa[hlen] at this
 simp only[HK,hl,ad,hf,azw,e2,azv,mn,hx (16+i-15) (by omega),hx (16+i-2) (by omega),hx (16+i-16) (by omega),hx (16+i-7) (by omega),hx (16+i) (by omega),g15,g2,g16,g7,lA,gs,Y,t7,t18,t17,t19,XS,WR,wp (i:=16+i) (by omega),hs,xg,MA,Mz]
 rfl
theorem are(R:Nat->cB)(W:List Int)(hW:W.length=64)(hR:∀i,R (i+1)=xd (gb i' i) (gb W i) (R i))(r0 r1:List Int):Gv (((),((),((),((R 0).a,((R 0).b,((R 0).c,((R 0).d,((R 0).e,((R 0).f,((R 0).g,((R 0).h,((0:Int),())))))))))))),(r0,(r1,(W,()))))=
  some (((),((),((R 64).a,((R 64).b,((R 64).c,((R 64).d,((R 64).e,((R 64).f,((R 64).g,((R 64).h,())))))))))),(r0,(r1,()))):=by
 have t2:=fun x=>ib x 2 (by simp[e']);have t6:=fun x=>ib x 6 (by simp[e']);have t11:=fun x=>ib x 11 (by simp[e'])
 have t13:=fun x=>ib x 13 (by simp[e']);have t22:=fun x=>ib x 22 (by simp[e']);have t25:=fun x=>ib x 25 (by simp[e'])
 have t7:=fun x=>ib x 7 (by simp[e']);have t18:=fun x=>ib x 18 (by simp[e']);have t17:=fun x=>ib x 17 (by simp[e']);have t19:=fun x=>ib x 19 (by simp[e'])
 refine ga (g:=zJ) (fun i=>(((),((),((),((R i).a,((R i).b,((R i).c,((R i).d,((R i).e,((R i).f,((R i).g,((R i).h,((i:Int),())))))))))))),(r0,(r1,(W,()))))) 64 (fun i hi=>?_) ?_ 64 0 rfl
 ·have hl:decide ((i:Int)<64)=true:=by simp;omega
  have g1:=wY (b:=i') (j:=i) (by rw[IG];exact hi)
  have hx:((long 64 W).bind fun q=>bh q.length (i:Int))=some i:=by rw[Bn hW];exact fQ (by rw[hW];exact hi)
  have g2:=mE (b:=W) (j:=i) (by rw[hW];exact hi)
  rw[hR i];generalize R i=s;simp only[zJ,hl,ad,g1,hx,g2,Y,t2,t6,t11,t13,t22,t25,wp (i:=i) (by omega),xd,Ef,NA,NB,Nz,MF]
 ·have:decide (((64:Nat):Int)<64)=false:=rfl;simp only[zJ,this,ak]
theorem ard(h:cB):∀(s:cB) (r1:List Int),Gu (((),((),((s.a,(s.b,(s.c,(s.d,(s.e,(s.f,(s.g,(s.h,())))))))),((0:Int),())))),(h.list,(r1,())))=some (((),((),())),((DP h s).list,(r1,()))):=by
 intro s r1;refine ga (g:=Ro) (fun i=>(((),((),((s.a,(s.b,(s.c,(s.d,(s.e,(s.f,(s.g,(s.h,())))))))),((i:Int),())))),((DP h s).list.take i++h.list.drop i,(r1,())))) 8 (fun i hi=>?_) rfl 8 0 rfl
 have:i=0\/i=1\/i=2\/i=3\/i=4\/i=5\/i=6\/i=7:=by omega
 rcases this with rfl|rfl|rfl|rfl|rfl|rfl|rfl|rfl<;>(show _=_;kernel_rfl)
theorem ag7(h:cB)(b:List Int)(hb:sr b):f121 (((h.a,(h.b,(h.c,(h.d,(h.e,(h.f,(h.g,(h.h,())))))))),(b,())),())=some (((),()),((xu h b).list,())):=by
 have aI:=arh b hb;have aJ:=arf b;have qx:kQ (cG b 64)=cG b 64:=by unfold kQ;rw[oB];simp
 have bS:=are (mW h (cG b 64)) (cG b 64) (oB b 64) (fun _=>rfl)
 have e1:(mW h (cG b 64) 0)=h:=rfl;rw[e1] at bS;have cY:=ard h;have dX:∀s:cB,s.list.length=8:=fun s=>rfl
 have hx:∀k:Nat,k<8->((long 8 h.list).bind fun q=>bh q.length (k:Int))=some k:=fun k hk=>by rw[Bn (dX h)];exact fQ (by rw[dX];exact hk)
 have z0:=hx 0 (by omega);have fx:=hx 1 (by omega);have z2:=hx 2 (by omega);have z3:=hx 3 (by omega)
 have z4:=hx 4 (by omega);have z5:=hx 5 (by omega);have NX:=hx 6 (by omega);have EZ:=hx 7 (by omega)
 have fa:([h.a,h.b,h.c,h.d,h.e,h.f,h.g,h.h]:List Int)=h.list:=rfl;have dS:h.list[0]? =some h.a:=rfl;have cT:h.list[1]? =some h.b:=rfl;have dC:h.list[2]? =some h.c:=rfl;have dW:h.list[3]? =some h.d:=rfl;have iw:h.list[4]? =some h.e:=rfl;have e_:h.list[5]? =some h.f:=rfl;have fk:h.list[6]? =some h.g:=rfl;have N0:h.list[7]? =some h.h:=rfl;simp only[Int.cast_ofNat_Int,Int.natCast_zero] at z0 fx z2 z3 z4 z5 NX EZ;simp only[f121,fa,aI,aJ,qx,Y,z0,fx,z2,z3,z4,z5,NX,EZ,dS,cT,dC,dW,iw,e_,fk,N0,bS,cY];rw[Bn (dX _)];rfl
abbrev AM:Shape:=⟨[am 0,bd 3 3000192],[bc 3000192 .u8 3 0],33⟩
abbrev H8:List aR:=[(.exit 0,⟨[am 0,bd 3 3000192],[bc 3000192 .u8 3 0],33⟩)]
noncomputable def Bw(y:AM.J):bP AM H8:=
(ja (y.2.1.length:Int) (64:Int)).bind fun a=>
 bif(a !=(56:Int)) then
(cl 1 y.2.1 ([(0:Int)]:List Int)).bind fun b=>
 some (.inl ((y.1.1,(),()),b,()))
else
 some (.inr ((y.1.1,(),()),y.2.1,()))
noncomputable def IW:AM.J->Option (aG H8):=bA Bw
theorem amV:aV O (ap (codeOf Tryz.f256) 1 28) (aX AM H8 IW):=bR g0 (by kernel_rfl) ag fun y=>by kernel_rfl
abbrev zY:Shape:=⟨[bd 3 3000192,aj 4,aj 5],[bc 3000192 .u8 3 0],33⟩
abbrev G1:List aR:=[(.exit 2,⟨[bd 3 3000192],[bc 3000192 .u8 3 0],33⟩)]
noncomputable def HI(y:zY.J):bP zY G1:=
 bif(decide (y.1.2.2.1>=(0:Int))) then
(fC .i64 y.1.2.1 (IntKind.i64.wrap ((8:Int)*y.1.2.2.1))).bind fun a=>
(cl 1 y.2.1 ([(IntKind.u8.wrap a)]:List Int)).bind fun b=>
 some (.inl (((),y.1.2.1,(IntKind.i64.wrap (y.1.2.2.1-(1:Int))),()),b,()))
else
 some (.inr (((),()),y.2.1,()))
noncomputable def Ho:zY.J->Option (aG G1):=bA HI
theorem ak2:aV O (ap (codeOf Tryz.f256) 1 250) (aX zY G1 Ho):=bR g0 (by kernel_rfl) ag fun y=>by kernel_rfl
abbrev i256:Shape:=⟨[am 0],[],33⟩
abbrev Ye:Shape:=⟨[bd 2 3000128],[bc 3000128 .u8 2 0],33⟩
noncomputable def f256(a:i256.J):Option Ye.J:=
(if a.1.1.length<=maxLen then some () else none).bind fun b=>
(cl 1 (bytesOf a.1.1) ([(128:Int)]:List Int)).bind fun c=>
(IW ((a.1.1,(),()),c,())).bind fun d=>
(Ho (((),(IntKind.i64.wrap ((d.1.1.length:Int)*(8:Int))),(7:Int),()),d.2.1,())).bind fun e=>
 some (((),()),e.2.1,())
noncomputable def _z:aH:=aL af Tryz.f256 i256 Ye [] f256
theorem asv:aE O 256 _z:=aM g0 Tryz.func256 (by kernel_rfl) (a7 amV (a7 ak2 ag)) (fun y=>by kernel_rfl) fun a=>by kernel_rfl
noncomputable abbrev au0:a8:=[(256,_z),(257,_y)]
theorem Mf:aT O (aZ af au0):=aY ⟨asv,asu,⟨⟩⟩
abbrev z1:Shape:=⟨[bd 3 3000192,aO 4 .u8,aj 5],[bc 3000192 .u32 3 0],57⟩
abbrev G3:List aR:=[(.exit 0,⟨[bd 3 3000192],[bc 3000192 .u32 3 0],57⟩)]
noncomputable def As(y:z1.J):bP z1 G3:=
 bif(decide (y.1.2.2.1<(y.1.2.1.length:Int))) then
(bq y.1.2.1 y.1.2.2.1 (IntKind.i64.wrap (y.1.2.2.1+(64:Int)))).bind fun a=>
(f257 ((y.2.1,a,()),())).bind fun b=>
 some (.inl (((),y.1.2.1,(IntKind.i64.wrap (y.1.2.2.1+(64:Int))),()),b.2.1,()))
else
 some (.inr (((),()),y.2.1,()))
noncomputable def Hq:z1.J->Option (aG G3):=bA As
theorem ak9:aV O (ap (codeOf Tryz.f220) 1 122) (aX z1 G3 Hq):=bR Mf (by kernel_rfl) ag fun y=>by kernel_rfl
abbrev zZ:Shape:=⟨[bd 3 3000192,bd 6 3000384,aj 7],[bc 3000192 .u32 3 0,bc 3000384 .u8 6 0],57⟩
abbrev G2:List aR:=[(.exit 2,⟨[bd 6 3000384],[bc 3000384 .u8 6 0],57⟩)]
noncomputable def SM(y:zZ.J):bP zZ G2:=
 bif(decide (y.1.2.2.1<(8:Int))) then
(bh y.2.1.length y.1.2.2.1).bind fun a=>
(y.2.1[a]?).bind fun b=>
(fC .u32 b (24:Int)).bind fun c=>
(bh y.2.1.length y.1.2.2.1).bind fun d=>
(y.2.1[d]?).bind fun e=>
(fC .u32 e (16:Int)).bind fun f=>
(bh y.2.1.length y.1.2.2.1).bind fun g=>
(y.2.1[g]?).bind fun h=>
(fC .u32 h (8:Int)).bind fun i=>
(bh y.2.1.length y.1.2.2.1).bind fun j=>
(y.2.1[j]?).bind fun k=>
(cl 1 y.2.2.1 ([(IntKind.u8.wrap c),(IntKind.u8.wrap f),(IntKind.u8.wrap i),(IntKind.u8.wrap k)]:List Int)).bind fun l=>
 some (.inl (((),(),(IntKind.i64.wrap (y.1.2.2.1+(1:Int))),()),y.2.1,l,()))
else
 some (.inr (((),()),y.2.2.1,()))
noncomputable def Hp:zZ.J->Option (aG G2):=bA SM
theorem ak8:aV O (ap (codeOf Tryz.f220) 1 506) (aX zZ G2 Hp):=bR Mf (by kernel_rfl) ag fun y=>by kernel_rfl
abbrev i220:Shape:=⟨[am 0],[],57⟩
abbrev Yr:Shape:=⟨[am 2],[],57⟩
noncomputable def f220(a:i220.J):Option Yr.J:=
(f256 ((a.1.1,()),())).bind fun b=>
(Hq (((),b.2.1,(0:Int),()),([(1779033703:Int),(3144134277:Int),(1013904242:Int),(2773480762:Int),(1359893119:Int),(2600822924:Int),(528734635:Int),(1541459225:Int)]:List Int),())).bind fun c=>
(Hp (((),(),(0:Int),()),c.2.1,([]:List Int),())).bind fun d=>
 some (((strOf d.2.1),()),())
noncomputable def _K:aH:=aL af Tryz.f220 i220 Yr [] f220
theorem asB:aE O 220 _K:=aM Mf Tryz.func220 (by kernel_rfl) (a7 ak9 (a7 ak8 ag)) (fun y=>by kernel_rfl) fun a=>by kernel_rfl
def kN(n:Nat):Nat:=(120-n%64)%64
def kH(n:Int):List Int:=[IntKind.u8.wrap (n.fdiv (2^56)),IntKind.u8.wrap (n.fdiv (2^48)),IntKind.u8.wrap (n.fdiv (2^40)),IntKind.u8.wrap (n.fdiv (2^32)),IntKind.u8.wrap (n.fdiv (2^24)),IntKind.u8.wrap (n.fdiv (2^16)),IntKind.u8.wrap (n.fdiv (2^8)),IntKind.u8.wrap (n.fdiv (2^0))]
def jM(s:B):List Int:=(bytesOf s++[128])++List.replicate (kN (s.length+1)) 0
def eL(s:B):List Int:=jM s++kH ((s.length:Int)*8)
theorem jB(s:B):(bytesOf s).length=s.length:=by simp[bytesOf]
theorem wu(n:Nat):kN n<64:=Nat.mod_lt _ (by decide)
theorem HT(n:Nat):(n+kN n)%64=56:=by unfold kN;omega
theorem SY(n j:Nat)(h:j<kN n):(n+j)%64≠56:=by unfold kN at h;omega
theorem He(s:B):(jM s).length=s.length+1+kN (s.length+1):=by simp[jM,jB];omega
theorem Ag(s:B):(eL s).length=s.length+1+kN (s.length+1)+8:=by simp[eL,He,kH]
theorem aoX(x:Int):kT (IntKind.u8.wrap x):=by rw[IntKind.wrap_u8];constructor<;>omega
theorem Su(s:B):∀x,x∈eL s->kT x:=by
 intro x hx;rcases bp.1 hx with h|h
 ·rcases bp.1 h with h|h
  ·rcases bp.1 h with h|h
   ·obtain⟨b,_,rfl⟩:=List.mem_map.1 h;have:=b.toNat_lt;constructor<;>omega
   ·rw[List.mem_singleton.1 h];decide
  ·rw[(List.mem_replicate.1 h).2];decide
 ·simp only[kH,bO,List.not_mem_nil,or_false] at h;rcases h with rfl|rfl|rfl|rfl|rfl|rfl|rfl|rfl<;>exact aoX _
def rQ(d:List Int)(k:Nat):List Int:=(d.take (64*k+64)).drop (64*k)
theorem Uw{d:List Int}{k:Nat}(h:64*k+64<=d.length)(hb:∀x,x∈d->kT x):sr (rQ d k):=
 ⟨by unfold rQ;simp;omega,fun x hx=>hb x (List.mem_of_mem_take (List.mem_of_mem_drop hx))⟩
def yR:cB:=⟨1779033703,3144134277,1013904242,2773480762,1359893119,2600822924,528734635,1541459225⟩
def uK(d:List Int):Nat->cB
 |0=>yR
 |k+1=>xu (uK d k) (rQ d k)
def eZ(s:B):cB:=uK (eL s) ((eL s).length/64)
theorem IK(s:B):64*((eL s).length/64)=(eL s).length:=by
 have:=HT (s.length+1);rw[Ag];omega
theorem C7(n:Nat):ja (n:Int) 64=some ((n%64:Nat):Int):=by
 rw[oL (by omega) (by omega)];simp
theorem SR(n:Nat)(d:List Int):d++List.replicate n 0++[0]=d++List.replicate (n+1) 0:=by
 rw[List.append_assoc,<-List.replicate_succ']
theorem aq9{x:Int}{k:Nat}(h:k<=64):fC .i64 x (k:Int)=some (x.fdiv (2^k)):=by
 unfold fC;rw[if_neg (by omega),Int.toNat_natCast,show IntKind.i64.bits=64 from rfl,Nat.min_eq_left h]
theorem ao1{x:Int}{k:Nat}(h:k<=64):fC .u64 x (k:Int)=some (x.fdiv (2^k)):=by
 unfold fC;rw[if_neg (by omega),Int.toNat_natCast,show IntKind.u64.bits=64 from rfl,Nat.min_eq_left h]
theorem Rh(n:Int){i:Nat}(h:i<8):(kH n).take (i+1)=(kH n).take i++[IntKind.u8.wrap (n.fdiv (2^(8*(7-i))))]:=by
 have:i=0\/i=1\/i=2\/i=3\/i=4\/i=5\/i=6\/i=7:=by omega
 rcases this with rfl|rfl|rfl|rfl|rfl|rfl|rfl|rfl<;>rfl
abbrev qI(s:B):Prop:=s.length<=1073741824
theorem ahb(s:B)(h:qI s):f256 ((s,()),())=some (((),()),(eL s,())):=by
 have hm:(if s.length<=maxLen then some () else none)=some ():=if_pos (by unfold maxLen;omega)
 have ha:cl 1 (bytesOf s) ([128]:List Int)=some (bytesOf s++[128]):=dy (by decide) (by unfold aA;rw[jB];simp;omega)
 have aI:IW ((s,((),())),(bytesOf s++[128],()))=some ((s,((),())),(jM s,())):=by
  have hz:=wu (s.length+1);have r_:∀i:Nat,(bytesOf s++[128]++List.replicate i (0:Int)).length=s.length+1+i:=fun i=>by simp[jB];omega
  have:=ga (g:=Bw) (fun i=>((s,((),())),(bytesOf s++[128]++List.replicate i (0:Int),()))) (kN (s.length+1)) (b:=((s,((),())),(jM s,()))) (fun i hi=>?_) ?_ (kN (s.length+1)) 0 (by omega)
  ·rw[List.replicate_zero,List.append_nil] at this;exact this
  ·have hne:((((s.length+1+i)%64:Nat):Int) !=56)=true:=by have:=SY (s.length+1) i hi;rw[bne_iff_ne];omega
   simp only[Bw,r_,C7,Y,hne,ad];rw[dy (by decide) (by unfold aA;rw[r_];simp;omega)]
   simp only[Y,SR]
  ·have hne:((((s.length+1+kN (s.length+1))%64:Nat):Int) !=56)=false:=by have:=HT (s.length+1);rw[this];rfl
   simp only[Bw,r_,C7,Y,hne,ak];rfl
 have aJ:∀n:Int,Ho (((),(n,((7:Int),()))),(jM s,()))=some (((),()),(jM s++kH n,())):=by
  intro n;have:=ga (g:=HI) (fun i=>(((),(n,((7-(i:Int)),()))),(jM s++(kH n).take i,()))) 8 (b:=(((),()),(jM s++kH n,()))) (fun i hi=>?_) rfl 8 0 rfl
  ·rw[show(7:Int)-((0:Nat):Int)=7 from rfl,List.take_zero,List.append_nil] at this;exact this
  ·have hl:decide ((7-(i:Int))>=0)=true:=by simp;omega
   have hw:IntKind.i64.wrap (8*(7-(i:Int)))=((8*(7-i):Nat):Int):=by rw[c' (by omega) (by omega)];omega
   have hs:IntKind.i64.wrap (7-(i:Int)-1)=7-((i+1:Nat):Int):=by rw[c' (by omega) (by omega)];omega
   simp only[HI,hl,ad,hw,aq9 (x:=n) (k:=8*(7-i)) (by omega),Y,hs]
   rw[dy (by decide) (by unfold aA;simp[He,kH];have:=wu (s.length+1);omega)]
   simp only[Y,List.append_assoc,Rh n hi]
 have hn:IntKind.i64.wrap ((s.length:Int)*8)=(s.length:Int)*8:=c' (by omega) (by omega)
 simp only[f256,hm,ha,Y,aI,hn,aJ];rfl
theorem ams(s:B)(h:qI s):f220 ((s,()),())=some ((strOf ((eZ s).list.flatMap fun w=>[IntKind.u8.wrap (w.fdiv (2^24)),IntKind.u8.wrap (w.fdiv (2^16)),IntKind.u8.wrap (w.fdiv (2^8)),IntKind.u8.wrap w]),()),()):=by
 have dX:=IK s;have hlen:=Ag s;have hz:=wu (s.length+1);have kp:=Su s;have aI:Hq (((),(eL s,((0:Int),()))),(yR.list,()))=some (((),()),((eZ s).list,())):=by
  refine ga (g:=As) (fun k=>(((),(eL s,(((64*k:Nat):Int),()))),((uK (eL s) k).list,()))) ((eL s).length/64) (fun k hk=>?_) ?_ ((eL s).length/64) 0 (by omega)
  ·have hk2:64*k+64<=(eL s).length:=by omega
   have hl:decide (((64*k:Nat):Int)<((eL s).length:Int))=true:=by simp;omega
   have hw:IntKind.i64.wrap (((64*k:Nat):Int)+64)=((64*k+64:Nat):Int):=by rw[c' (by omega) (by omega)];omega
   have hs:bq (eL s) ((64*k:Nat):Int) ((64*k+64:Nat):Int)=some (rQ (eL s) k):=qY (by omega) hk2
   have hb:=aio (uK (eL s) k) (rQ (eL s) k) (Uw hk2 kp);simp only[As,hl,ad,hw,hs,Y,hb];rfl
  ·have hl:decide (((64*((eL s).length/64):Nat):Int)<((eL s).length:Int))=false:=by simp;omega
   simp only[As,hl,ak];rfl
 have aJ:∀q:cB,Hp (((),((),((0:Int),()))),(q.list,(([]:List Int),())))=some (((),()),((q.list.flatMap fun w=>[IntKind.u8.wrap (w.fdiv (2^24)),IntKind.u8.wrap (w.fdiv (2^16)),IntKind.u8.wrap (w.fdiv (2^8)),IntKind.u8.wrap w]),())):=by
  intro q;refine ga (g:=SM) (fun i=>(((),((),((i:Int),()))),(q.list,((q.list.take i).flatMap fun w=>[IntKind.u8.wrap (w.fdiv (2^24)),IntKind.u8.wrap (w.fdiv (2^16)),IntKind.u8.wrap (w.fdiv (2^8)),IntKind.u8.wrap w],())))) 8 (fun i hi=>?_) rfl 8 0 rfl
  have:i=0\/i=1\/i=2\/i=3\/i=4\/i=5\/i=6\/i=7:=by omega
  rcases this with rfl|rfl|rfl|rfl|rfl|rfl|rfl|rfl<;>(show _=_;kernel_rfl)
 have mj:=ahb s h;have fa:([1779033703,3144134277,1013904242,2773480762,1359893119,2600822924,528734635,1541459225]:List Int)=yR.list:=rfl;simp only[f220,mj,Y,fa,aI,aJ]
abbrev V8:Shape:=⟨[ax 0 500000 0,(1,.aq (.d (.int .u8)))],[bv 37000001 .u8 500000 1,aw 500000 [.dN,.own 37000001]],17⟩
abbrev VD:Shape:=⟨[ax 0 500000 0,(4,.aq (.DC))],[bv 37000001 .u8 500000 1,aw 500000 [.dN,.own 37000001]],17⟩
noncomputable def Ks(a:V8.J):Option VD.J:=
(cl 1 a.2.1 ([a.1.2.1]:List Int)).bind fun b=>
 some (((),(),()),b,((),(),()),())
noncomputable def WB:aH:=aL af Tryz.f122 V8 VD [0] Ks
theorem aoN:aE O 122 WB:=aM g0 Tryz.func122 (by kernel_rfl) ag (fun y=>by kernel_rfl) fun a=>by kernel_rfl
abbrev z6:Shape:=⟨[am 0,am 3,bd 4 3000256,aj 5],[bc 3000256 .u8 4 0],30⟩
abbrev G4:List aR:=[(.exit 0,⟨[bd 4 3000256],[bc 3000256 .u8 4 0],30⟩)]
noncomputable def At(y:z6.J):bP z6 G4:=
 bif(decide (y.1.2.2.2.1<(y.1.1.length:Int))) then
(aS y.1.1 y.1.2.2.2.1).bind fun a=>
(l5 .u8 (a.toNat:Int) (16:Int)).bind fun b=>
(aS y.1.2.1 b).bind fun c=>
(aS y.1.1 y.1.2.2.2.1).bind fun d=>
(ja (d.toNat:Int) (16:Int)).bind fun e=>
(aS y.1.2.1 e).bind fun f=>
(cl 1 y.2.1 ([(c.toNat:Int),(f.toNat:Int)]:List Int)).bind fun g=>
 some (.inl ((y.1.1,y.1.2.1,(),(IntKind.i64.wrap (y.1.2.2.2.1+(1:Int))),()),g,()))
else
 some (.inr (((),()),y.2.1,()))
noncomputable def Hr:z6.J->Option (aG G4):=bA At
theorem ala:aV O (ap (codeOf Tryz.f219) 1 122) (aX z6 G4 Hr):=bR g0 (by kernel_rfl) ag fun y=>by kernel_rfl
abbrev i219:Shape:=⟨[am 0],[],30⟩
abbrev Ys:Shape:=⟨[am 2],[],30⟩
noncomputable def f219(a:i219.J):Option Ys.J:=
(Hr ((a.1.1,([48,49,50,51,52,53,54,55,56,57,97,98,99,100,101,102]:B),(),(0:Int),()),([]:List Int),())).bind fun b=>
 some (((strOf b.2.1),()),())
noncomputable def _L:aH:=aL af Tryz.f219 i219 Ys [] f219
theorem asC:aE O 219 _L:=aM g0 Tryz.func219 (by kernel_rfl) (a7 ala ag) (fun y=>by kernel_rfl) fun a=>by kernel_rfl
noncomputable abbrev avn:a8:=[(219,_L),(220,_K)]
theorem aws:aT O (aZ af avn):=aY ⟨asC,asB,⟨⟩⟩
abbrev i173:Shape:=⟨[am 0],[],7⟩
abbrev YY:Shape:=⟨[am 2],[],7⟩
noncomputable def f173(a:i173.J):Option YY.J:=
(f220 ((a.1.1,()),())).bind fun b=>
(f219 ((b.1.1,()),())).bind fun c=>
(bq c.1.1 (0:Int) (16:Int)).bind fun d=>
 some ((d,()),())
noncomputable def _9:aH:=aL af Tryz.f173 i173 YY [] f173
theorem z173:aE O 173 _9:=aM aws Tryz.func173 (by kernel_rfl) ag (fun y=>by kernel_rfl) fun a=>by kernel_rfl
noncomputable abbrev aAd:a8:=[(121,aaC),(122,WB)]
theorem u9:aT O (aZ af aAd):=aY ⟨atd,aoN,⟨⟩⟩
abbrev Ch:Shape:=⟨[am 0,eX 3 3 .u32,bd 4 3000256],[(3,.row .u32,.same),bc 3000256 .u8 4 0],70⟩
abbrev JQ:List aR:=[(.exit 0,⟨[am 0,eX 3 3 .u32,bd 4 3000256],[(3,.row .u32,.same),bc 3000256 .u8 4 0],70⟩)]
noncomputable def CI(y:Ch.J):bP Ch JQ:=
(ja (y.2.2.1.length:Int) (64:Int)).bind fun a=>
 bif(a !=(56:Int)) then
(cl 1 y.2.2.1 ([(0:Int)]:List Int)).bind fun b=>
 some (.inl ((y.1.1,(),(),()),y.2.1,b,()))
else
 some (.inr ((y.1.1,(),(),()),y.2.1,y.2.2.1,()))
noncomputable def Kc:Ch.J->Option (aG JQ):=bA CI
theorem apo:aV O (ap (codeOf Tryz.f69) 1 60) (aX Ch JQ Kc):=bR u9 (by kernel_rfl) ag fun y=>by kernel_rfl
abbrev AC:Shape:=⟨[eX 3 3 .u32,bd 4 3000256,(5,.aq (.d (.int .u64))),aj 6],[(3,.row .u32,.same),bc 3000256 .u8 4 0],70⟩
abbrev HY:List aR:=[(.exit 2,⟨[eX 3 3 .u32,bd 4 3000256],[(3,.row .u32,.same),bc 3000256 .u8 4 0],70⟩)]
noncomputable def Jn(y:AC.J):bP AC HY:=
 bif(decide (y.1.2.2.2.1>=(0:Int))) then
(fC .u64 y.1.2.2.1 y.1.2.2.2.1).bind fun a=>
(cl 1 y.2.2.1 ([(IntKind.u8.wrap a)]:List Int)).bind fun b=>
 some (.inl (((),(),y.1.2.2.1,(IntKind.i64.wrap (y.1.2.2.2.1-(8:Int))),()),y.2.1,b,()))
else
 some (.inr (((),(),()),y.2.1,y.2.2.1,()))
noncomputable def IP:AC.J->Option (aG HY):=bA Jn
theorem amH:aV O (ap (codeOf Tryz.f69) 1 506) (aX AC HY IP):=bR u9 (by kernel_rfl) ag fun y=>by kernel_rfl
abbrev zT:Shape:=⟨[eX 3 3 .u32,aO 4 .u8,aj 7],[(3,.row .u32,.same)],70⟩
abbrev GW:List aR:=[(.exit 4,⟨[eX 3 3 .u32],[(3,.row .u32,.same)],70⟩)]
noncomputable def Am(y:zT.J):bP zT GW:=
 bif(decide (y.1.2.2.1<(y.1.2.1.length:Int))) then
(long 8 y.2.1).bind fun a=>
(bq y.1.2.1 y.1.2.2.1 (IntKind.i64.wrap (y.1.2.2.1+(64:Int)))).bind fun b=>
(f121 ((((a.getD 0 (0:Int)),(a.getD 1 (0:Int)),(a.getD 2 (0:Int)),(a.getD 3 (0:Int)),(a.getD 4 (0:Int)),(a.getD 5 (0:Int)),(a.getD 6 (0:Int)),(a.getD 7 (0:Int)),()),b,()),())).bind fun c=>
(long 8 y.2.1).bind fun d=>
 some (.inl (((),y.1.2.1,(IntKind.i64.wrap (y.1.2.2.1+(64:Int))),()),([((pad (t:=.u32) 8 c.2.1).getD 0 (0:Int)),((pad (t:=.u32) 8 c.2.1).getD 1 (0:Int)),((pad (t:=.u32) 8 c.2.1).getD 2 (0:Int)),((pad (t:=.u32) 8 c.2.1).getD 3 (0:Int)),((pad (t:=.u32) 8 c.2.1).getD 4 (0:Int)),((pad (t:=.u32) 8 c.2.1).getD 5 (0:Int)),((pad (t:=.u32) 8 c.2.1).getD 6 (0:Int)),((pad (t:=.u32) 8 c.2.1).getD 7 (0:Int))]:List Int),()))
else
 some (.inr (((),()),y.2.1,()))
noncomputable def Hk:zT.J->Option (aG GW):=bA Am
theorem akU:aV O (ap (codeOf Tryz.f69) 1 1018) (aX zT GW Hk):=bR u9 (by kernel_rfl) ag fun y=>by kernel_rfl
abbrev yX:Shape:=⟨[ax 8 8 0,(10,.aq (.d (.int .u32))),aj 11,aO 52 .u32,aj 53,aj 54],[bv 5000513 .u8 8 1,aw 8 [.dN,.own 5000513]],70⟩
abbrev Fx:List aR:=[(.exit 8,⟨[ax 8 8 0,aO 52 .u32,aj 53,aj 54],[bv 5000513 .u8 8 1,aw 8 [.dN,.own 5000513]],70⟩)]
noncomputable def FE(y:yX.J):bP yX Fx:=
 bif(decide (y.1.2.2.1>=(0:Int))) then
(fC .u32 y.1.2.1 y.1.2.2.1).bind fun a=>
(aS ([48,49,50,51,52,53,54,55,56,57,97,98,99,100,101,102]:B) (eW .u32 a (15:Int))).bind fun b=>
(Ks (((),(b.toNat:Int),()),y.2.1,((),(),()),())).bind fun c=>
 some (.inl (((),y.1.2.1,(IntKind.i64.wrap (y.1.2.2.1-(4:Int))),y.1.2.2.2.1,y.1.2.2.2.2.1,y.1.2.2.2.2.2.1,()),c.2.1,((),(),()),()))
else
 some (.inr (((),y.1.2.2.2.1,y.1.2.2.2.2.1,y.1.2.2.2.2.2.1,()),y.2.1,((),(),()),()))
noncomputable def FC:yX.J->Option (aG Fx):=bA FE
theorem agz:aV O (ap (di (ap (codeOf Tryz.f69) 1 4090)) 8180 1047142) (aX yX Fx FC):=bR u9 (by kernel_rfl) ag fun y=>by kernel_rfl
abbrev zS:Shape:=⟨[ax 8 8 0,aO 52 .u32,aj 53,aj 54],[bv 5000513 .u8 8 1,aw 8 [.dN,.own 5000513]],70⟩
abbrev GV:List aR:=[(.exit 6,⟨[ax 8 8 0],[bv 5000513 .u8 8 1,aw 8 [.dN,.own 5000513]],70⟩)]
noncomputable def qZ(y:zS.J):bP zS GV:=
 bif(decide (y.1.2.2.2.1<y.1.2.2.1)) then
(aS y.1.2.1 y.1.2.2.2.1).bind fun a=>
(FC (((),a,(28:Int),y.1.2.1,y.1.2.2.1,y.1.2.2.2.1,()),y.2.1,((),(),()),())).bind fun b=>
 some (.inl (((),b.1.2.1,b.1.2.2.1,(IntKind.i64.wrap (b.1.2.2.2.1+(1:Int))),()),b.2.1,((),(),()),()))
else
 some (.inr (((),()),y.2.1,((),(),()),()))
noncomputable def Hj:zS.J->Option (aG GV):=bA qZ
theorem akT:aV O (ap (codeOf Tryz.f69) 1 4090) (aX zS GV Hj):=bR u9 (by kernel_rfl) (a7 agz ag) fun y=>by kernel_rfl
abbrev i69:Shape:=⟨[am 0],[],70⟩
abbrev abR:Shape:=⟨[am 2],[],70⟩
noncomputable def f69(a:i69.J):Option abR.J:=
(long 8 (List.replicate 8 (0:Int))).bind fun b=>
(if a.1.1.length<=maxLen then some () else none).bind fun c=>
(cl 1 (bytesOf a.1.1) ([(128:Int)]:List Int)).bind fun d=>
(Kc ((a.1.1,(),(),()),([(1779033703:Int),(3144134277:Int),(1013904242:Int),(2773480762:Int),(1359893119:Int),(2600822924:Int),(528734635:Int),(1541459225:Int)]:List Int),d,())).bind fun e=>
(IP (((),(),(IntKind.u64.wrap ((IntKind.u64.wrap (e.1.1.length:Int))*(8:Int))),(56:Int),()),e.2.1,e.2.2.1,())).bind fun f=>
(Hk (((),f.2.2.1,(0:Int),()),f.2.1,())).bind fun g=>
((long 8 g.2.1).bind fun q=>bq q (0:Int) (2:Int)).bind fun h=>
(Hj (((),h,(h.length:Int),(0:Int),()),([]:List Int),((),(),()),())).bind fun i=>
 some (((strOf i.2.1),()),())
noncomputable def adv:aH:=aL af Tryz.f69 i69 abR [] f69
theorem awU:aE O 69 adv:=aM u9 Tryz.func69 (by kernel_rfl) (a7 apo (a7 amH (a7 akU (a7 akT ag)))) (fun y=>by kernel_rfl) fun a=>by kernel_rfl
def ur:B:=[48,49,50,51,52,53,54,55,56,57,97,98,99,100,101,102]
def jN(k:Nat):UInt8:=ur.getD k 48
theorem Kf{k:Nat}(h:k<16):aS ur (k:Int)=some (jN k):=by
 rw[cd];unfold jN;rw[List.getD_eq_getElem?_getD,dZ (by exact h)];rfl
def iJ(b:UInt8):B:=[jN (b.toNat/16),jN (b.toNat%16)]
def gj(w:Int):B:=[jN (w.toNat/268435456%16),jN (w.toNat/16777216%16),jN (w.toNat/1048576%16),jN (w.toNat/65536%16),jN (w.toNat/4096%16),jN (w.toNat/256%16),jN (w.toNat/16%16),jN (w.toNat%16)]
def qa(s:B):B:=gj (eZ s).a++gj (eZ s).b
theorem vq(s:B):strOf (bytesOf s)=s:=by
 unfold strOf bytesOf;rw[List.map_map];refine List.map_id'' (fun b=>?_) s
 simp
theorem py(s t:B):bytesOf (s++t)=bytesOf s++bytesOf t:=by unfold bytesOf;rw[List.map_append]
theorem agh(s:B)(h:qI s):f219 ((s,()),())=some ((s.flatMap iJ,()),()):=by
 have aI:Hr ((s,(ur,((),((0:Int),())))),(([]:List Int),()))=some (((),()),(bytesOf (s.flatMap iJ),())):=by
  have hlen:∀t:B,(t.flatMap iJ).length=2*t.length:=by
   intro t;induction t with
   |nil=>rfl
   |cons b r ih=>rw[List.flatMap_cons,dx,ih];simp[iJ];omega
  refine ga (g:=At) (fun i=>((s,(ur,((),((i:Int),())))),(bytesOf ((s.take i).flatMap iJ),()))) s.length (fun i hi=>?_) ?_ s.length 0 (by omega)
  ·obtain⟨b,hb⟩:∃b,s[i]? =some b:=⟨s[i],dZ hi⟩;have aC:l5 .u8 (b.toNat:Int) 16=some ((b.toNat/16:Nat):Int):=by
    have:=b.toNat_lt;unfold l5;rw[if_neg (by decide),Int.tdiv_eq_ediv_of_nonneg (by omega),IntKind.wrap_u8]
    congr 1;omega
   have hr:ja (b.toNat:Int) 16=some ((b.toNat%16:Nat):Int):=by rw[oL (by omega) (by omega)];simp
   have:=b.toNat_lt;have e1:=Kf (k:=b.toNat/16) (by omega)
   have e2:=Kf (k:=b.toNat%16) (by omega)
   have ay:s.take (i+1)=s.take i++[b]:=by rw[List.take_add_one,hb];rfl
   simp only[At,ct hi,ad,cd,hb,Y,aC,hr,ay];simp only[<-cd,e1,e2,Y];rw[dy (by decide) (by unfold aA;rw[jB,hlen];simp;omega),b9 (by unfold aA;omega)]
   simp only[Y,List.flatMap_append,py];rfl
  ·simp only[At,dL,ak,List.take_length]
 have fa:([48,49,50,51,52,53,54,55,56,57,97,98,99,100,101,102]:B)=ur:=rfl;simp only[f219,fa,aI,Y,vq]
abbrev sn(w:Int):Prop:=0<=w/\w<4294967296
theorem Uf{w:Int}(h:sn w):iJ (UInt8.ofNat (IntKind.u8.wrap (w.fdiv (2^24))).toNat)++(iJ (UInt8.ofNat (IntKind.u8.wrap (w.fdiv (2^16))).toNat)++(iJ (UInt8.ofNat (IntKind.u8.wrap (w.fdiv (2^8))).toNat)++iJ (UInt8.ofNat (IntKind.u8.wrap w).toNat)))=gj w:=by
 obtain⟨n,rfl⟩:=Int.eq_ofNat_of_zero_le h.1;have hn:n<4294967296:=by have:=h.2;omega
 have e:∀m:Nat,(UInt8.ofNat (IntKind.u8.wrap (m:Int)).toNat).toNat=m%256:=fun m=>by
  rw[IntKind.wrap_u8,show((m:Int)%256).toNat=m%256 by omega];simp
 have f:∀k:Nat,((n:Int).fdiv (2^k))=((n/2^k:Nat):Int):=fun k=>by
  rw[Int.fdiv_eq_ediv_of_nonneg _ (by exact Int.le_of_lt (Int.pow_pos (by decide)))]
  simp
 rw[f,f,f];simp only[iJ,gj,e,List.cons_append,List.nil_append,Int.toNat_natCast];rw[show n/2^24%256/16=n/268435456%16 by omega,show n/2^24%256%16=n/16777216%16 by omega,show n/2^16%256/16=n/1048576%16 by omega,show n/2^16%256%16=n/65536%16 by omega,
  show n/2^8%256/16=n/4096%16 by omega,show n/2^8%256%16=n/256%16 by omega,show n%256/16=n/16%16 by omega,show n%256%16=n%16 by omega]
theorem WO(x:Int):sn (IntKind.u32.wrap x):=by rw[IntKind.wrap_u32];constructor<;>omega
theorem _a(s:B):sn (eZ s).a/\sn (eZ s).b:=by
 have h1:=IK s;have h2:=Ag s;unfold eZ;generalize hk:(eL s).length/64=k at h1;cases k with
 |zero=>omega
 |succ k=>exact⟨WO _,WO _⟩
theorem SE(w:Int):(gj w).length=8:=rfl
theorem zP(s:B):(qa s).length=16:=rfl
theorem aq6(s:B)(h:qI s):f173 ((s,()),())=some ((qa s,()),()):=by
 have aI:=ams s h;have hw:=_a s;have aJ:=agh (strOf ((eZ s).list.flatMap fun w=>[IntKind.u8.wrap (w.fdiv (2^24)),IntKind.u8.wrap (w.fdiv (2^16)),IntKind.u8.wrap (w.fdiv (2^8)),IntKind.u8.wrap w])) (by unfold qI;simp[strOf,cB.list])
 have ay:∀q:cB,bq ((strOf (q.list.flatMap fun w=>[IntKind.u8.wrap (w.fdiv (2^24)),IntKind.u8.wrap (w.fdiv (2^16)),IntKind.u8.wrap (w.fdiv (2^8)),IntKind.u8.wrap w])).flatMap iJ) 0 16=
   some ((iJ (UInt8.ofNat (IntKind.u8.wrap (q.a.fdiv (2^24))).toNat)++(iJ (UInt8.ofNat (IntKind.u8.wrap (q.a.fdiv (2^16))).toNat)++(iJ (UInt8.ofNat (IntKind.u8.wrap (q.a.fdiv (2^8))).toNat)++iJ (UInt8.ofNat (IntKind.u8.wrap q.a).toNat))))++
    (iJ (UInt8.ofNat (IntKind.u8.wrap (q.b.fdiv (2^24))).toNat)++(iJ (UInt8.ofNat (IntKind.u8.wrap (q.b.fdiv (2^16))).toNat)++(iJ (UInt8.ofNat (IntKind.u8.wrap (q.b.fdiv (2^8))).toNat)++iJ (UInt8.ofNat (IntKind.u8.wrap q.b).toNat))))):=fun q=>rfl
 simp only[f173,aI,aJ,Y,ay,Uf hw.1,Uf hw.2];rfl
theorem ar0{m:Nat}(h:m<4294967296):eW .u32 (m:Int) 15=((m%16:Nat):Int):=by
 unfold eW;rw[BitVec.toNat_and,Gk h,show(BitVec.ofInt IntKind.u32.bits 15).toNat=15 from rfl,show(15:Nat)=2^4-1 from rfl,Nat.and_two_pow_sub_one_eq_mod,pF (by omega) (by omega)]
theorem alO(w:Int){i:Nat}(h:i<8):(gj w)[i]? =some (jN (w.toNat/2^(28-4*i)%16)):=by
 have:i=0\/i=1\/i=2\/i=3\/i=4\/i=5\/i=6\/i=7:=by omega
 rcases this with rfl|rfl|rfl|rfl|rfl|rfl|rfl|rfl<;>simp[gj]
theorem SD(w:Int)(hw:sn w)(r0:List Int)(hr:r0.length<=100)(p q u):FC (((),(w,((28:Int),(p,(q,(u,())))))),(r0,(((),((),())),())))=some (((),(p,(q,(u,())))),(r0++bytesOf (gj w),(((),((),())),()))):=by
 have:=ga (g:=FE) (fun i=>(((),(w,((28-4*(i:Int)),(p,(q,(u,())))))),(r0++bytesOf ((gj w).take i),(((),((),())),())))) 8 (b:=(((),(p,(q,(u,())))),(r0++bytesOf (gj w),(((),((),())),())))) (fun i hi=>?_) rfl 8 0 rfl
 ·rw[show(28:Int)-4*((0:Nat):Int)=28 from rfl,List.take_zero] at this
  have e:r0++bytesOf []=r0:=List.append_nil r0;rw[e] at this;exact this
 ·obtain⟨n,rfl⟩:=Int.eq_ofNat_of_zero_le hw.1;have hn:n<4294967296:=by have:=hw.2;omega
  have hl:decide ((28-4*(i:Int))>=0)=true:=by simp;omega
  have hs:fC .u32 (n:Int) (28-4*(i:Int))=some ((n/2^(28-4*i):Nat):Int):=by
   rw[show(28-4*(i:Int))=((28-4*i:Nat):Int) by omega]
   unfold fC;rw[if_neg (by omega),Int.toNat_natCast,show IntKind.u32.bits=32 from rfl,Nat.min_eq_left (by omega),Int.fdiv_eq_ediv_of_nonneg _ (by exact Int.le_of_lt (Int.pow_pos (by decide)))]
   simp
  have hlt:n/2^(28-4*i)<4294967296:=Nat.lt_of_le_of_lt (Nat.div_le_self _ _) hn;have ha:=ar0 hlt;have hx:=Kf (k:=n/2^(28-4*i)%16) (Nat.mod_lt _ (by decide))
  have aa:IntKind.i64.wrap (28-4*(i:Int)-4)=28-4*((i+1:Nat):Int):=by rw[c' (by omega) (by omega)];omega
  have ay:(gj (n:Int)).take (i+1)=(gj (n:Int)).take i++[jN (n/2^(28-4*i)%16)]:=by
   rw[List.take_add_one,alO _ hi,Int.toNat_natCast];rfl
  have fa:([48,49,50,51,52,53,54,55,56,57,97,98,99,100,101,102]:B)=ur:=rfl;simp only[FE,hl,ad,hs,Y,ha,fa,hx,Ks,aa,ay,py];rw[dy (by decide) (by unfold aA;simp[jB,SE];omega)]
  simp only[Y,List.append_assoc];rfl
theorem aoW(s:B)(h:qI s):f69 ((s,()),())=some ((qa s,()),()):=by
 have dX:=IK s;have hlen:=Ag s;have hz:=wu (s.length+1);have kp:=Su s;have hm:(if s.length<=maxLen then some () else none)=some ():=if_pos (by unfold maxLen;omega)
 have ha:cl 1 (bytesOf s) ([128]:List Int)=some (bytesOf s++[128]):=dy (by decide) (by unfold aA;rw[jB];simp;omega)
 have h8:long 8 (List.replicate 8 (0:Int))=some (List.replicate 8 (0:Int)):=rfl;have aI:∀r0:List Int,Kc ((s,((),((),()))),(r0,(bytesOf s++[128],())))=some ((s,((),((),()))),(r0,(jM s,()))):=by
  intro r0;have r_:∀i:Nat,(bytesOf s++[128]++List.replicate i (0:Int)).length=s.length+1+i:=fun i=>by simp[jB];omega
  have:=ga (g:=CI) (fun i=>((s,((),((),()))),(r0,(bytesOf s++[128]++List.replicate i (0:Int),())))) (kN (s.length+1)) (b:=((s,((),((),()))),(r0,(jM s,())))) (fun i hi=>?_) ?_ (kN (s.length+1)) 0 (by omega)
  ·rw[List.replicate_zero,List.append_nil] at this;exact this
  ·have hne:((((s.length+1+i)%64:Nat):Int) !=56)=true:=by have:=SY (s.length+1) i hi;rw[bne_iff_ne];omega
   simp only[CI,r_,C7,Y,hne,ad];rw[dy (by decide) (by unfold aA;rw[r_];simp;omega)]
   simp only[Y,SR]
  ·have hne:((((s.length+1+kN (s.length+1))%64:Nat):Int) !=56)=false:=by have:=HT (s.length+1);rw[this];rfl
   simp only[CI,r_,C7,Y,hne,ak];rfl
 have aJ:∀(n:Int) (r0:List Int),IP (((),((),(n,((56:Int),())))),(r0,(jM s,())))=some (((),((),())),(r0,(jM s++kH n,()))):=by
  intro n r0;have:=ga (g:=Jn) (fun i=>(((),((),(n,((56-8*(i:Int)),())))),(r0,(jM s++(kH n).take i,())))) 8 (b:=(((),((),())),(r0,(jM s++kH n,())))) (fun i hi=>?_) rfl 8 0 rfl
  ·rw[show(56:Int)-8*((0:Nat):Int)=56 from rfl,List.take_zero,List.append_nil] at this;exact this
  ·have hl:decide ((56-8*(i:Int))>=0)=true:=by simp;omega
   have hw:(56-8*(i:Int))=((8*(7-i):Nat):Int):=by omega
   have hs:IntKind.i64.wrap (56-8*(i:Int)-8)=56-8*((i+1:Nat):Int):=by rw[c' (by omega) (by omega)];omega
   have hx:fC .u64 n (56-8*(i:Int))=some (n.fdiv (2^(8*(7-i)))):=by rw[hw];exact ao1 (by omega)
   simp only[Jn,hl,ad,hx,Y,hs];rw[dy (by decide) (by unfold aA;simp[He,kH];have:=wu (s.length+1);omega)]
   simp only[Y,List.append_assoc,Rh n hi]
 have hp:∀q:cB,long 8 q.list=some q.list:=fun q=>rfl
 have bS:Hk (((),(eL s,((0:Int),()))),(yR.list,()))=some (((),()),((eZ s).list,())):=by
  refine ga (g:=Am) (fun k=>(((),(eL s,(((64*k:Nat):Int),()))),((uK (eL s) k).list,()))) ((eL s).length/64) (fun k hk=>?_) ?_ ((eL s).length/64) 0 (by omega)
  ·have hk2:64*k+64<=(eL s).length:=by omega
   have hl:decide (((64*k:Nat):Int)<((eL s).length:Int))=true:=by simp;omega
   have hw:IntKind.i64.wrap (((64*k:Nat):Int)+64)=((64*k+64:Nat):Int):=by rw[c' (by omega) (by omega)];omega
   have hs:bq (eL s) ((64*k:Nat):Int) ((64*k+64:Nat):Int)=some (rQ (eL s) k):=qY (by omega) hk2
   have hb:=ag7 (uK (eL s) k) (rQ (eL s) k) (Uw hk2 kp);have aC:∀q:cB,((q.list.getD 0 0,(q.list.getD 1 0,(q.list.getD 2 0,(q.list.getD 3 0,(q.list.getD 4 0,(q.list.getD 5 0,(q.list.getD 6 0,(q.list.getD 7 0,())))))))):Int×Int×Int×Int×Int×Int×Int×Int×Unit)=(q.a,(q.b,(q.c,(q.d,(q.e,(q.f,(q.g,(q.h,())))))))):=fun q=>rfl
   simp only[Am,hl,ad,hw,hs,Y,hp,aC,hb];rfl
  ·have hl:decide (((64*((eL s).length/64):Nat):Int)<((eL s).length:Int))=false:=by simp;omega
   simp only[Am,hl,ak];rfl
 have hw:=_a s;have cY:∀a b:Int,sn a->sn b->Hj (((),(([a,b]:List Int),((([a,b]:List Int).length:Int),((0:Int),())))),(([]:List Int),(((),((),())),())))=some (((),()),(bytesOf (gj a++gj b),(((),((),())),()))):=by
  intro a b ha hb;have e1:=SD a ha [] (by simp) ([a,b]:List Int) ((2:Int)) (0:Int)
  have e2:=SD b hb (bytesOf (gj a)) (by rw[jB,SE];decide) ([a,b]:List Int) ((2:Int)) (1:Int)
  have dS:aS ([a,b]:List Int) 0=some a:=rfl;have cT:aS ([a,b]:List Int) 1=some b:=rfl;have iR:qZ (((),(([a,b]:List Int),((2:Int),((0:Int),())))),(([]:List Int),(((),((),())),())))=some (.inl (((),(([a,b]:List Int),((2:Int),((1:Int),())))),(bytesOf (gj a),(((),((),())),())))):=by
   have:decide ((0:Int)<2)=true:=rfl;simp only[qZ,this,ad,dS,Y,e1];rfl
  have s1:qZ (((),(([a,b]:List Int),((2:Int),((1:Int),())))),(bytesOf (gj a),(((),((),())),())))=some (.inl (((),(([a,b]:List Int),((2:Int),((2:Int),())))),(bytesOf (gj a++gj b),(((),((),())),())))):=by
   have:decide ((1:Int)<2)=true:=rfl;simp only[qZ,this,ad,cT,Y,e2,py];rfl
  have s2:qZ (((),(([a,b]:List Int),((2:Int),((2:Int),())))),(bytesOf (gj a++gj b),(((),((),())),())))=some (.inr (((),()),(bytesOf (gj a++gj b),(((),((),())),())))):=by
   have:decide ((2:Int)<2)=false:=rfl;simp only[qZ,this,ak]
  exact(d' iR).trans ((d' s1).trans (cC s2))
 have hn:IntKind.u64.wrap (IntKind.u64.wrap (s.length:Int)*8)=(s.length:Int)*8:=by rw[IntKind.wrap_u64,IntKind.wrap_u64];omega
 have fa:([1779033703,3144134277,1013904242,2773480762,1359893119,2600822924,528734635,1541459225]:List Int)=yR.list:=rfl;have hz2:((long 8 (eZ s).list).bind fun q=>bq q (0:Int) (2:Int))=some [(eZ s).a,(eZ s).b]:=rfl
 have atY:jM s++kH ((s.length:Int)*8)=eL s:=rfl;simp only[f69,h8,hm,ha,Y,fa,aI,hn,aJ,atY,bS,hz2,cY _ _ hw.1 hw.2,vq];rfl
abbrev Xf:Shape:=⟨[ax 0 500000 0,am 1],[bv 37000001 .u8 500000 1,aw 500000 [.dN,.own 37000001]],19⟩
abbrev W2:Shape:=⟨[ax 0 500000 0,aj 4,(5,.aq (.DC))],[bv 37000001 .u8 500000 1,aw 500000 [.dN,.own 37000001]],19⟩
noncomputable def mK(a:Xf.J):Option W2.J:=
(cl 1 a.2.1 (bytesOf a.1.2.1)).bind fun b=>
 some (((),(a.1.2.1.length:Int),(),()),b,((),(),()),())
noncomputable def Dp:aH:=aL af Tryz.f63 Xf W2 [0] mK
theorem KE:aE O 63 Dp:=aM g0 Tryz.func63 (by kernel_rfl) ag (fun y=>by kernel_rfl) fun a=>by kernel_rfl
end Go.Proofs
namespace Go.Proofs
open Go.Shelf
def Tryz.afY:Go.Shelf.Ren:=⟨fun|171=>64|243=>113|246=>165|283=>205|284=>206|285=>207|286=>208|129=>240|317=>239|318=>241|319=>242|320=>243|337=>269|338=>270|n=>n,fun|3=>3|9=>9|2=>2|4=>4|171=>224|0=>0|53=>155|37=>52|5=>5|173=>227|212=>244|51=>153|20=>20|213=>245|46=>203|232=>268|233=>269|n=>n,fun|17=>1|18=>3|19=>4|n=>n⟩
theorem Tryz.alI:Go.Proofs.LaysM.n171 O Tryz.afY:={
 mixed:=by kernel_rfl
 f129:=Tryz.func240.trans (congrArg some (by kernel_rfl))
 f171:=Tryz.func64.trans (congrArg some (by kernel_rfl))
 f243:=Tryz.func113.trans (congrArg some (by kernel_rfl))
 f246:=Tryz.func165.trans (congrArg some (by kernel_rfl))
 f283:=Tryz.func205.trans (congrArg some (by kernel_rfl))
 f284:=Tryz.func206.trans (congrArg some (by kernel_rfl))
 f285:=Tryz.func207.trans (congrArg some (by kernel_rfl))
 f286:=Tryz.func208.trans (congrArg some (by kernel_rfl))
 f317:=Tryz.func239.trans (congrArg some (by kernel_rfl))
 f318:=Tryz.func241.trans (congrArg some (by kernel_rfl))
 f319:=Tryz.func242.trans (congrArg some (by kernel_rfl))
 f320:=Tryz.func243.trans (congrArg some (by kernel_rfl))
 f337:=Tryz.func269.trans (congrArg some (by kernel_rfl))
 f338:=Tryz.func270.trans (congrArg some (by kernel_rfl))
 t0:=Tryz.underlying0
 a0:=Tryz.isAgg0
 z0:=Tryz.sizeOf0
 v0:=Tryz.zeroValue0
 t2:=Tryz.underlying2
 a2:=Tryz.isAgg2
 z2:=Tryz.sizeOf2
 v2:=Tryz.zeroValue2
 t3:=Tryz.underlying3
 a3:=Tryz.isAgg3
 z3:=Tryz.sizeOf3
 v3:=Tryz.zeroValue3
 t4:=Tryz.underlying4
 a4:=Tryz.isAgg4
 z4:=Tryz.sizeOf4
 v4:=Tryz.zeroValue4
 t5:=Tryz.underlying5
 a5:=Tryz.isAgg5
 z5:=Tryz.sizeOf5
 v5:=Tryz.zeroValue5
 t9:=Tryz.underlying9
 a9:=Tryz.isAgg9
 z9:=Tryz.sizeOf9
 v9:=Tryz.zeroValue9
 t20:=Tryz.underlying20
 a20:=Tryz.isAgg20
 z20:=Tryz.sizeOf20
 v20:=Tryz.zeroValue20
 t37:=Tryz.underlying52
 a37:=Tryz.isAgg52
 z37:=Tryz.sizeOf52
 v37:=Tryz.zeroValue52
 t46:=Tryz.underlying203
 a46:=Tryz.isAgg203
 z46:=Tryz.sizeOf203
 v46:=Tryz.zeroValue203
 t51:=Tryz.underlying153
 a51:=Tryz.isAgg153
 z51:=Tryz.sizeOf153
 v51:=Tryz.zeroValue153
 t53:=Tryz.underlying155
 a53:=Tryz.isAgg155
 z53:=Tryz.sizeOf155
 v53:=Tryz.zeroValue155
 t171:=Tryz.underlying224
 a171:=Tryz.isAgg224
 z171:=Tryz.sizeOf224
 v171:=Tryz.zeroValue224
 t173:=Tryz.underlying227
 a173:=Tryz.isAgg227
 z173:=Tryz.sizeOf227
 v173:=Tryz.zeroValue227
 t212:=Tryz.underlying244
 a212:=Tryz.isAgg244
 z212:=Tryz.sizeOf244
 v212:=Tryz.zeroValue244
 t213:=Tryz.underlying245
 a213:=Tryz.isAgg245
 z213:=Tryz.sizeOf245
 t232:=Tryz.underlying268
 a232:=Tryz.isAgg268
 z232:=Tryz.sizeOf268
 v232:=Tryz.zeroValue268
 t233:=Tryz.underlying269
 a233:=Tryz.isAgg269
 z233:=Tryz.sizeOf269
 v233:=Tryz.zeroValue269
 g17:=by kernel_rfl
 g18:=by kernel_rfl
 g19:=by kernel_rfl
 i0:=by kernel_rfl
 i2:=by kernel_rfl
 i3:=by kernel_rfl
 i4:=by kernel_rfl
 i5:=by kernel_rfl
 i9:=by kernel_rfl
 i20:=by kernel_rfl
 i37:=by kernel_rfl
 i46:=by kernel_rfl
 i51:=by kernel_rfl
 i53:=by kernel_rfl
 i171:=by kernel_rfl
 i173:=by kernel_rfl
 i212:=by kernel_rfl
 i232:=by kernel_rfl
 i233:=by kernel_rfl
 m17:=by kernel_rfl
 m18:=by kernel_rfl
 m19:=by kernel_rfl}
open Go.RowKit Go.Sort Go.Lib in
theorem Tryz.strconv_Itoa(n:Int)(h0:-9223372036854775808<=n)(h1:n<=9223372036854775807)(w:World)(atV:Lib.TabIs O w "internal/strconv.uint64pow10" .u64 Lib.pow10Tab):
  Calls O 64 #[.int .i64 n] w fun e w'=>e=.returned (.string ⟨(Lib.itoa n).toArray⟩)/\∃k os,w'=grow (w.drewN k) os:=Any.strconv_Itoa Tryz.alI n h0 h1 w atV
def Tryz.agQ:Go.Shelf.Ren:=⟨fun|153=>214|152=>252|226=>253|227=>254|228=>255|137=>274|119=>275|224=>246|225=>245|217=>244|266=>271|n=>n,fun|9=>9|3=>3|4=>4|5=>5|21=>21|117=>253|116=>252|0=>0|46=>203|124=>264|n=>n,fun|n=>n⟩
theorem Tryz.anV:Go.Proofs.Lays.n153 O Tryz.agQ:={
 mixed:=by kernel_rfl
 f119:=Tryz.func275.trans (congrArg some (by kernel_rfl))
 f137:=Tryz.func274.trans (congrArg some (by kernel_rfl))
 f152:=Tryz.func252.trans (congrArg some (by kernel_rfl))
 f153:=Tryz.func214.trans (congrArg some (by kernel_rfl))
 f217:=Tryz.func244.trans (congrArg some (by kernel_rfl))
 f224:=Tryz.func246.trans (congrArg some (by kernel_rfl))
 f225:=Tryz.func245.trans (congrArg some (by kernel_rfl))
 f226:=Tryz.func253.trans (congrArg some (by kernel_rfl))
 f227:=Tryz.func254.trans (congrArg some (by kernel_rfl))
 f228:=Tryz.func255.trans (congrArg some (by kernel_rfl))
 f266:=Tryz.func271.trans (congrArg some (by kernel_rfl))
 t0:=Tryz.underlying0
 a0:=Tryz.isAgg0
 z0:=Tryz.sizeOf0
 v0:=Tryz.zeroValue0
 t3:=Tryz.underlying3
 a3:=Tryz.isAgg3
 z3:=Tryz.sizeOf3
 v3:=Tryz.zeroValue3
 t4:=Tryz.underlying4
 a4:=Tryz.isAgg4
 z4:=Tryz.sizeOf4
 v4:=Tryz.zeroValue4
 t5:=Tryz.underlying5
 a5:=Tryz.isAgg5
 z5:=Tryz.sizeOf5
 v5:=Tryz.zeroValue5
 t9:=Tryz.underlying9
 a9:=Tryz.isAgg9
 z9:=Tryz.sizeOf9
 v9:=Tryz.zeroValue9
 t21:=Tryz.underlying21
 a21:=Tryz.isAgg21
 z21:=Tryz.sizeOf21
 v21:=Tryz.zeroValue21
 t46:=Tryz.underlying203
 a46:=Tryz.isAgg203
 z46:=Tryz.sizeOf203
 v46:=Tryz.zeroValue203
 t116:=Tryz.underlying252
 a116:=Tryz.isAgg252
 z116:=Tryz.sizeOf252
 t117:=Tryz.underlying253
 a117:=Tryz.isAgg253
 z117:=Tryz.sizeOf253
 v117:=Tryz.zeroValue253
 t124:=Tryz.underlying264
 a124:=Tryz.isAgg264
 z124:=Tryz.sizeOf264
 v124:=Tryz.zeroValue264}
end Go.Proofs
namespace Go.Proofs
open Go.Jk
noncomputable def DQ:aH:=Hz
theorem K0:aE O 64 DQ:=anX (fun _ _=>enters_of Tryz.func64 (by kernel_rfl) rfl _ _) fun n h0 h1 w hw=>Tryz.strconv_Itoa n h0 h1 w (akw (by kernel_rfl) (show oS w 1 .u64 Lib.pow10Tab from hw.2))
noncomputable abbrev avV:a8:=[(63,Dp),(64,DQ),(105,xz)]
theorem abb:aT O (aZ af avV):=aY ⟨KE,K0,z105,⟨⟩⟩
abbrev Ac:Shape:=⟨[ax 3 3 0,aO 10 .entry,aj 11,aj 12],[bv 5000193 .u8 3 1,aw 3 [.dN,.own 5000193]],64⟩
abbrev G9:List aR:=[(.exit 0,⟨[ax 3 3 0],[bv 5000193 .u8 3 1,aw 3 [.dN,.own 5000193]],64⟩)]
noncomputable def Aw(y:Ac.J):bP Ac G9:=
 bif(decide (y.1.2.2.2.1<y.1.2.2.1)) then
(aS y.1.2.1 y.1.2.2.2.1).bind fun a=>
(if-9223372036854775808<=a.mode/\a.mode<=9223372036854775807 then some () else none).bind fun b=>
 bif(a.kind==(1:Int)) then
(cc ([100,105,114,32]:B) (Lib.itoa a.mode)).bind fun c=>
(cc c ([32]:B)).bind fun d=>
(cc d a.path).bind fun e=>
(cc e ([10]:B)).bind fun f=>
(mK (((),f,()),y.2.1,((),(),()),())).bind fun g=>
 some (.inl (((),y.1.2.1,y.1.2.2.1,(IntKind.i64.wrap (y.1.2.2.2.1+(1:Int))),()),g.2.1,((),(),()),()))
else
 bif(a.kind==(2:Int)) then
(cc ([102,105,108,101,32]:B) (Lib.itoa a.mode)).bind fun h=>
(cc h ([32]:B)).bind fun i=>
(cc i a.path).bind fun j=>
(cc j ([32]:B)).bind fun k=>
(if-9223372036854775808<=(a.text.length:Int)/\(a.text.length:Int)<=9223372036854775807 then some () else none).bind fun l=>
(cc k (Lib.itoa (a.text.length:Int))).bind fun m=>
(cc m ([10]:B)).bind fun n=>
(mK (((),n,()),y.2.1,((),(),()),())).bind fun D=>
(cc a.text ([10]:B)).bind fun p=>
(mK (((),p,()),D.2.1,((),(),()),())).bind fun q=>
 some (.inl (((),y.1.2.1,y.1.2.2.1,(IntKind.i64.wrap (y.1.2.2.2.1+(1:Int))),()),q.2.1,((),(),()),()))
else
 bif(a.kind==(3:Int)) then
(cc ([108,105,110,107,32]:B) a.path).bind fun r=>
(cc r ([32]:B)).bind fun s=>
(cc s a.text).bind fun t=>
(cc t ([10]:B)).bind fun u=>
(mK (((),u,()),y.2.1,((),(),()),())).bind fun v=>
 some (.inl (((),y.1.2.1,y.1.2.2.1,(IntKind.i64.wrap (y.1.2.2.2.1+(1:Int))),()),v.2.1,((),(),()),()))
else
 some (.inl (((),y.1.2.1,y.1.2.2.1,(IntKind.i64.wrap (y.1.2.2.2.1+(1:Int))),()),y.2.1,((),(),()),()))
else
 some (.inr (((),()),y.2.1,((),(),()),()))
noncomputable def Hw:Ac.J->Option (aG G9):=bA Aw
theorem alm:aV O (ap (codeOf Tryz.f120) 1 122) (aX Ac G9 Hw):=bR abb (by kernel_rfl) ag fun y=>by kernel_rfl
abbrev i120:Shape:=⟨[aO 0 .entry],[],64⟩
abbrev Zy:Shape:=⟨[am 2],[],64⟩
noncomputable def f120(a:i120.J):Option Zy.J:=
(f105 ((a.1.1,()),())).bind fun b=>
 bif(!b.1.1) then
 some ((([]:B),()),())
else
(Hw (((),a.1.1,(a.1.1.length:Int),(0:Int),()),([]:List Int),((),(),()),())).bind fun c=>
 some (((strOf c.2.1),()),())
noncomputable def aaD:aH:=aL af Tryz.f120 i120 Zy [] f120
theorem ate:aE O 120 aaD:=aM abb Tryz.func120 (by kernel_rfl) (a7 alm ag) (fun y=>by kernel_rfl) fun a=>by kernel_rfl
abbrev i83:Shape:=⟨[aj 0],[],28⟩
abbrev nX:Shape:=⟨[am 2],[],28⟩
noncomputable def LO(aW:i83.J->Option nX.J):aH:=aL af Tryz.f83 i83 nX [] aW
noncomputable abbrev az8(aW:i83.J->Option nX.J):a8:=[(83,(LO aW))]
theorem aAS(aW:i83.J->Option nX.J)(eS:aE O 83 (LO aW)):aT O (aZ af (az8 aW)):=aY ⟨eS,⟨⟩⟩
noncomputable def l8(aW:i83.J->Option nX.J)(a:i83.J):Option nX.J:=
 bif(decide (a.1.1<((-9223372036854775807):Int))) then
 some ((([45,57,50,50,51,51,55,50,48,51,54,56,53,52,55,55,53,56,48,56]:B),()),())
else
 bif(decide (a.1.1<(0:Int))) then
(aW (((IntKind.i64.wrap (0-a.1.1)),()),())).bind fun b=>
(cc ([45]:B) b.1.1).bind fun c=>
 some ((c,()),())
else
 bif(decide (a.1.1<(10:Int))) then
 some (((strOf ([(IntKind.u8.wrap (IntKind.i64.wrap ((48:Int)+a.1.1)))]:List Int)),()),())
else
(l5 .i64 a.1.1 (10:Int)).bind fun d=>
(aW ((d,()),())).bind fun e=>
(ja a.1.1 (10:Int)).bind fun f=>
(cc e.1.1 (strOf ([(IntKind.u8.wrap (IntKind.i64.wrap ((48:Int)+f)))]:List Int))).bind fun g=>
 some ((g,()),())
theorem asd(aW:i83.J->Option nX.J)(eS:aE O 83 (LO aW)):aE O 83 (aL af Tryz.f83 i83 nX [] (l8 aW)):=aM (aAS aW eS) Tryz.func83 (by kernel_rfl) ag (fun y=>by kernel_rfl) fun a=>by kernel_rfl
noncomputable def f83:i83.J->Option nX.J:=kb l8 kD
noncomputable def yj:aH:=aL af Tryz.f83 i83 nX [] f83
theorem D6:aE O 83 yj:=JY (ff:=l8) asd kD
noncomputable abbrev auW:a8:=[(83,yj)]
theorem awh:aT O (aZ af auW):=aY ⟨D6,⟨⟩⟩
abbrev i226:Shape:=⟨[ck 0 [ah,ba,ba,ah]],[],45⟩
abbrev Ym:Shape:=⟨[am 2],[],45⟩
noncomputable def f226(a:i226.J):Option Ym.J:=
 bif(a.1.1.2.1==(1:Int)) then
(f83 ((a.1.1.2.2.1,()),())).bind fun b=>
(cc ([100,105,114,32]:B) b.1.1).bind fun c=>
(cc c ([32]:B)).bind fun d=>
(cc d a.1.1.1).bind fun e=>
(cc e ([10]:B)).bind fun f=>
 some ((f,()),())
else
 bif(a.1.1.2.1==(3:Int)) then
(cc ([108,105,110,107,32]:B) a.1.1.1).bind fun g=>
(cc g ([32]:B)).bind fun h=>
(cc h a.1.1.2.2.2.1).bind fun i=>
(cc i ([10]:B)).bind fun j=>
 some ((j,()),())
else
(f83 ((a.1.1.2.2.1,()),())).bind fun k=>
(cc ([102,105,108,101,32]:B) k.1.1).bind fun l=>
(cc l ([32]:B)).bind fun m=>
(cc m a.1.1.1).bind fun n=>
(cc n ([32]:B)).bind fun D=>
(f83 (((a.1.1.2.2.2.1.length:Int),()),())).bind fun p=>
(cc D p.1.1).bind fun q=>
(cc q ([10]:B)).bind fun r=>
(cc r a.1.1.2.2.2.1).bind fun s=>
(cc s ([10]:B)).bind fun t=>
 some ((t,()),())
noncomputable def _H:aH:=aL af Tryz.f226 i226 Ym [] f226
theorem z226:aE O 226 _H:=aM awh Tryz.func226 (by kernel_rfl) ag (fun y=>by kernel_rfl) fun a=>by kernel_rfl
noncomputable abbrev avh:a8:=[(226,_H)]
theorem aaW:aT O (aZ af avh):=aY ⟨z226,⟨⟩⟩
abbrev AW:Shape:=⟨[aO 0 .entry,am 3,aj 4],[],19⟩
abbrev If:List aR:=[(.exit 0,⟨[am 3],[],19⟩)]
noncomputable def BD(y:AW.J):bP AW If:=
 bif(decide (y.1.2.2.1<(y.1.1.length:Int))) then
(aS y.1.1 y.1.2.2.1).bind fun a=>
(f226 (((a.path,a.kind,a.mode,a.text,()),()),())).bind fun b=>
(cc y.1.2.1 b.1.1).bind fun c=>
 some (.inl ((y.1.1,c,(IntKind.i64.wrap (y.1.2.2.1+(1:Int))),()),()))
else
 some (.inr ((y.1.2.1,()),()))
noncomputable def I2:AW.J->Option (aG If):=bA BD
theorem ana:aV O (ap (codeOf Tryz.f181) 1 58) (aX AW If I2):=bR aaW (by kernel_rfl) ag fun y=>by kernel_rfl
abbrev i181:Shape:=⟨[aO 0 .entry],[],19⟩
abbrev YT:Shape:=⟨[am 2],[],19⟩
noncomputable def f181(a:i181.J):Option YT.J:=
(I2 ((a.1.1,([]:B),(0:Int),()),())).bind fun b=>
 some ((b.1.1,()),())
noncomputable def L2:aH:=aL af Tryz.f181 i181 YT [] f181
theorem XJ:aE O 181 L2:=aM aaW Tryz.func181 (by kernel_rfl) (a7 ana ag) (fun y=>by kernel_rfl) fun a=>by kernel_rfl
theorem SV(m:Nat)(h:m<10):strOf ([(IntKind.u8.wrap (IntKind.i64.wrap ((48:Int)+(m:Int))))]:List Int)=[UInt8.ofNat (48+m)]:=by
 have:IntKind.u8.wrap (IntKind.i64.wrap ((48:Int)+(m:Int)))=((48+m:Nat):Int):=by
  rw[c' (by omega) (by omega),IntKind.wrap_u8];omega
 rw[this];rfl
theorem Uv:∀n:Nat,n<10^20->(Lib.decDigits n).length<=20:=by
 have:∀(k n:Nat),n<10^(k+1)->(Lib.decDigits n).length<=k+1:=by
  intro k;induction k with
  |zero=>intro n h;rw[Lib.decDigits,dif_pos (by omega)];simp
  |succ k ih=>
   intro n h;rw[Lib.decDigits];split
   ·simp
   ·have:=ih (n/10) (by rw[Nat.pow_succ] at h;omega)
    simp;omega
 intro n h;exact this 19 n h
theorem ox(n:Nat):Lib.itoa (n:Int)=Lib.decDigits n:=by unfold Lib.itoa;rw[if_neg (by omega),Int.toNat_natCast]
theorem j4(n:Nat)(h:n<=4611686018427387904):(Lib.itoa (n:Int)).length<=20:=by rw[ox];exact Uv n (by omega)
theorem akj:∀(m:Nat),m<=4611686018427387903->∀f:Nat,m<f->kb l8 f (((m:Int),()),())=some ((Lib.decDigits m,()),()):=by
 intro m;induction m using Nat.strongRecOn with
 |_ m ih=>
  intro hm f hf;obtain⟨f,rfl⟩:∃aBH,f=aBH+1:=⟨f-1,by omega⟩
  show l8 (kb l8 f) (((m:Int),()),())=_;have h1:decide ((m:Int)< -9223372036854775807)=false:=decide_eq_false (by omega)
  have h2:decide ((m:Int)<0)=false:=decide_eq_false (by omega)
  have h3:decide ((m:Int)<10)=decide (m<10):=by congr 1;apply propext;omega
  rw[Lib.decDigits];by_cases h:m<10
  ·rw[dif_pos h];simp only[l8,h1,h2,h3,h,decide_true,ad,ak,SV m h]
  ·have aC:l5 .i64 (m:Int) 10=some ((m/10:Nat):Int):=by exact wA rfl (by omega) (by omega) (by decide)
   have hr:ja (m:Int) 10=some ((m%10:Nat):Int):=by exact oL (by omega) (by decide)
   rw[dif_neg h];simp only[l8,h1,h2,h3,h,decide_false,ak,aC,hr,Y,ih (m/10) (by omega) (by omega) f (by omega),SV (m%10) (by omega)]
   rw[dI (by have:=Uv (m/10) (by omega);simp;omega)]
   rfl
theorem AA(m:Nat)(h:m<=4611686018427387903):f83 (((m:Int),()),())=some ((Lib.itoa (m:Int),()),()):=by
 rw[ox];exact akj m h kD (by unfold kD;omega)
def eo(e:aB):B:=bif e.kind==1 then [100,105,114,32]++Lib.itoa e.mode++[32]++e.path++[10] else bif e.kind==3 then [108,105,110,107,32]++e.path++[32]++e.text++[10]
 else [102,105,108,101,32]++Lib.itoa e.mode++[32]++e.path++[32]++Lib.itoa (e.text.length:Int)++[10]++e.text++[10]
def dt(t:List aB):B:=t.flatMap eo
abbrev oj(e:aB):Prop:=0<=e.mode/\e.mode<=7
theorem Br{e:aB}(h:oj e):(Lib.itoa e.mode).length<=20:=by
 obtain⟨n,hn⟩:=Int.eq_ofNat_of_zero_le h.1;rw[hn];exact j4 n (by have:=h.2;omega)
theorem Gq{e:aB}(h:oj e)(hb:mf e):(eo e).length<=4194404:=by
 have h1:=Br h;have h2:=j4 e.text.length (by have:=hb.2;omega)
 have h3:=hb.1;have aF:=hb.2;unfold eo;cases e.kind==1<;>cases e.kind==3<;>simp<;>omega
theorem akf(e:aB)(h:oj e)(hb:mf e):f226 (((e.path,(e.kind,(e.mode,(e.text,())))),()),())=some ((eo e,()),()):=by
 have h1:=Br h;have h2:=j4 e.text.length (by have:=hb.2;omega)
 have h3:=hb.1;have aF:=hb.2;obtain⟨n,hn⟩:=Int.eq_ofNat_of_zero_le h.1;have d1:=AA n (by have:=h.2;omega)
 rw[<-hn] at d1;have d2:=AA e.text.length (by omega)
 unfold eo;simp only[f226];cases e.kind==1 with
 |true=>
  simp only[ad,d1,Y];repeat(rw[dI (by simp;omega),Y])
 |false=>
  cases e.kind==3 with
  |true=>
   simp only[ad,ak,Y];repeat(rw[dI (by simp;omega),Y])
  |false=>
   simp only[ak,d1,d2,Y];repeat(rw[dI (by simp;omega),Y])
theorem ny{aD:Type}{f:aD->B}{n:Nat}:∀{xs:List aD},(∀x,x∈xs->(f x).length<=n)->(xs.flatMap f).length<=xs.length*n:=by
 intro xs;induction xs with
 |nil=>intro _;simp
 |cons x r ih=>
  intro h;have h1:=h x ci;have h2:=ih fun y hy=>h y (cf _ hy)
  rw[List.flatMap_cons,dx,cW,Nat.add_mul];omega
theorem nr{aD:Type}(f:aD->B){xs:List aD}{i:Nat}{x:aD}(h:xs[i]? =some x):(xs.take (i+1)).flatMap f=(xs.take i).flatMap f++f x:=by
 rw[List.take_add_one,h,List.flatMap_append];simp
theorem za{t:List aB}(hm:∀e,e∈t->oj e)(hb:iL t)(hl:t.length<=16):(dt t).length<=67110464:=by
 have h1:=ny (f:=eo) (xs:=t) (n:=4194404) fun e he=>Gq (hm e he) (hb.2 e he)
 unfold dt;exact Nat.le_trans h1 (by omega)
theorem qV{aD:Type}{xs:List aD}{i:Nat}{x:aD}(h:x∈xs.take i):x∈xs:=List.mem_of_mem_take h
theorem OS{t:List aB}(hm:∀e,e∈t->oj e)(hb:iL t)(hl:t.length<=16)(i:Nat):((t.take i).flatMap eo).length<=67110464:=
 za (t:=t.take i) (fun e he=>hm e (qV he)) ⟨Nat.le_trans (List.take_sublist i t).length_le hb.1,fun e he=>hb.2 e (qV he)⟩ (Nat.le_trans (List.take_sublist i t).length_le hl)
theorem F2(t:List aB)(hm:∀e,e∈t->oj e)(hb:iL t)(hl:t.length<=16):f181 ((t,()),())=some ((dt t,()),()):=by
 have aI:I2 ((t,(([]:B),((0:Int),()))),())=some ((dt t,()),()):=by
  refine ga (g:=BD) (fun i=>((t,((t.take i).flatMap eo,((i:Int),()))),())) t.length (fun i hi=>?_) ?_ t.length 0 (by omega)
  ·obtain⟨e,he⟩:∃e,t[i]? =some e:=⟨t[i],dZ hi⟩;have eG:=eJ he;have:=OS hm hb hl i;have hX:=Gq (hm e eG) (hb.2 e eG);simp only[BD,ct hi,ad,cd,he,Y,akf e (hm e eG) (hb.2 e eG)];rw[dI (by omega),b9 (by unfold aA;omega),nr eo he]
   rfl
  ·simp only[BD,dL,ak,List.take_length];rfl
 simp only[f181,aI,Y]
theorem s4{n a b:Int}(h:within n a b=true):a<=n/\n<=b:=by
 unfold within at h;simpa using h
theorem HM{e:aB}(h:e7 e=true):oj e:=by
 unfold e7 at h;simp only[bC] at h;have h:=h.2;cases aI:(e.kind==1) with
 |true=>
  rw[aI] at h;simp only[ad,bC] at h;exact s4 h.1
 |false=>
  cases aJ:(e.kind==2) with
  |true=>
   rw[aI,aJ] at h;simp only[ad,ak,bC] at h;exact s4 h.1
  |false=>
   rw[aI,aJ] at h;cases bS:(e.kind==3) with
   |true=>
    rw[bS] at h;simp only[ad,ak,bC,beq_iff_eq] at h;exact⟨by rw[h.1];decide,by rw[h.1];decide⟩
   |false=>rw[bS] at h;cases h
theorem vz{e:aB}(h:e7 e=true):e.kind=1\/e.kind=2\/e.kind=3:=by
 unfold e7 at h;simp only[bC] at h;have h:=h.2;cases aI:(e.kind==1) with
 |true=>exact .inl (eq_of_beq aI)
 |false=>
  cases aJ:(e.kind==2) with
  |true=>exact .inr (.inl (eq_of_beq aJ))
  |false=>
   cases bS:(e.kind==3) with
   |true=>exact .inr (.inr (eq_of_beq bS))
   |false=>rw[aI,aJ,bS] at h;cases h
theorem vu{t:List aB}(h:dQ t=true):∀e,e∈t->e7 e=true:=by
 intro e he;unfold dQ at h;simp only[bC] at h;obtain⟨i,hi⟩:=List.getElem?_of_mem he;have:=Ay t 0 h.1.1 i e hi;unfold jm at this;simp only[bC] at this;exact this.1
theorem pN(xs:List Int)(s:B)(h:aA (xs.length+s.length)):mK (((),(s,())),(xs,(((),((),())),())))=some (((),((s.length:Int),((),()))),(xs++bytesOf s,(((),((),())),()))):=by
 simp only[mK];rw[dy (by decide) (by rw[jB];exact h)]
 rfl
theorem Ki{n:Int}(h:-9223372036854775808<=n/\n<=9223372036854775807):(if-9223372036854775808<=n/\n<=9223372036854775807 then some () else none)=some ():=if_pos h
theorem agk(t:List aB)(hb:iL t):f120 ((t,()),())=some (((bif dQ t then dt t else []),()),()):=by
 have h0:=qP ((t,()),()) hb;simp only[f120,h0,Y];cases f_:dQ t with
 |false=>rfl
 |true=>
  have hl:=j3 f_;have Z6:=vu f_;have hm:∀e,e∈t->oj e:=fun e he=>HM (Z6 e he)
  have aI:Hw (((),(t,((t.length:Int),((0:Int),())))),(([]:List Int),(((),((),())),())))=some (((),()),(bytesOf (dt t),(((),((),())),()))):=by
   refine ga (g:=Aw) (fun i=>(((),(t,((t.length:Int),((i:Int),())))),(bytesOf ((t.take i).flatMap eo),(((),((),())),())))) t.length (fun i hi=>?_) ?_ t.length 0 (by omega)
   ·obtain⟨e,he⟩:∃e,t[i]? =some e:=⟨t[i],dZ hi⟩;have eG:=eJ he;have jb:=OS hm hb hl i;have hX:=Gq (hm e eG) (hb.2 e eG);have h1:=Br (hm e eG);have h2:=j4 e.text.length (by have:=(hb.2 e eG).2;omega)
    have h3:=(hb.2 e eG).1;have aF:=(hb.2 e eG).2;have aDa:=hm e eG;have i1:=Ki (n:=e.mode) ⟨by omega,by omega⟩
    have i2:=Ki (n:=(e.text.length:Int)) ⟨by omega,by omega⟩
    rw[nr eo he,py];simp only[Aw,ct hi,ad,cd,he,Y,i1,i2,b9 (i:=i) (by unfold aA;omega)]
    generalize List.flatMap eo (List.take i t)=A at jb ⊢;rcases vz (Z6 e eG) with hk|hk|hk
    ·have e1:eo e=[100,105,114,32]++Lib.itoa e.mode++[32]++e.path++[10]:=by unfold eo;rw[hk];rfl
     rw[hk,show((1:Int)==1)=true from rfl,ad,e1]
     repeat(rw[dI (by simp;omega),Y])
     rw[pN _ _ (by unfold aA;rw[jB];simp;omega)]
     rfl
    ·have e1:eo e=[102,105,108,101,32]++Lib.itoa e.mode++[32]++e.path++[32]++Lib.itoa (e.text.length:Int)++[10]++(e.text++[10]):=by unfold eo;rw[hk];simp
     rw[hk,show((2:Int)==1)=false from rfl,show((2:Int)==2)=true from rfl,ak,ad,e1]
     repeat(rw[dI (by simp;omega),Y])
     rw[pN _ _ (by unfold aA;rw[jB];simp;omega),Y]
     rw[dI (by simp;omega),Y]
     rw[pN _ _ (by unfold aA;simp[jB];omega),py _ (e.text++[10]),<-List.append_assoc]
     rfl
    ·have e1:eo e=[108,105,110,107,32]++e.path++[32]++e.text++[10]:=by unfold eo;rw[hk];rfl
     rw[hk,show((3:Int)==1)=false from rfl,show((3:Int)==2)=false from rfl,show((3:Int)==3)=true from rfl,ak,ak,ad,e1]
     repeat(rw[dI (by simp;omega),Y])
     rw[pN _ _ (by unfold aA;rw[jB];simp;omega)]
     rfl
   ·simp only[Aw,dL,ak,List.take_length];rfl
  simp only[bu,ak,ad,aI,Y,vq]
noncomputable abbrev avW:a8:=[(102,xA)]
theorem awF:aT O (aZ af avW):=aY ⟨Dv,⟨⟩⟩
abbrev i119:Shape:=⟨[ck 0 [ah,ba,ah]],[],34⟩
abbrev Zz:Shape:=⟨[am 2],[],34⟩
noncomputable def f119(a:i119.J):Option Zz.J:=
(f102 (((a.1.1.1,a.1.1.2.1,a.1.1.2.2.1,()),()),())).bind fun b=>
 bif(!b.1.1) then
 some ((([]:B),()),())
else
 bif(a.1.1.2.1==(1:Int)) then
(cc a.1.1.1 ([61]:B)).bind fun c=>
(cc c a.1.1.2.2.1).bind fun d=>
 some ((d,()),())
else
 bif(a.1.1.2.1==(2:Int)) then
(cc a.1.1.1 ([62,61]:B)).bind fun e=>
(cc e a.1.1.2.2.1).bind fun f=>
 some ((f,()),())
else
 bif(a.1.1.2.1==(3:Int)) then
(cc a.1.1.1 ([60]:B)).bind fun g=>
(cc g a.1.1.2.2.1).bind fun h=>
 some ((h,()),())
else
 some ((a.1.1.1,()),())
noncomputable def aaE:aH:=aL af Tryz.f119 i119 Zz [] f119
theorem z119:aE O 119 aaE:=aM awF Tryz.func119 (by kernel_rfl) ag (fun y=>by kernel_rfl) fun a=>by kernel_rfl
abbrev i225:Shape:=⟨[aj 0],[],10⟩
abbrev Yn:Shape:=⟨[am 2],[],10⟩
noncomputable def f225(a:i225.J):Option Yn.J:=
 bif(a.1.1==(1:Int)) then
 some ((([61]:B),()),())
else
 bif(a.1.1==(2:Int)) then
 some ((([62,61]:B),()),())
else
 bif(a.1.1==(3:Int)) then
 some ((([60]:B),()),())
else
 some ((([]:B),()),())
noncomputable def LU:aH:=aL af Tryz.f225 i225 Yn [] f225
theorem XE:aE O 225 LU:=aM g0 Tryz.func225 (by kernel_rfl) ag (fun y=>by kernel_rfl) fun a=>by kernel_rfl
noncomputable abbrev au1:a8:=[(225,LU)]
theorem awj:aT O (aZ af au1):=aY ⟨XE,⟨⟩⟩
abbrev i218:Shape:=⟨[ck 0 [ah,ba,ah]],[],12⟩
abbrev Yt:Shape:=⟨[am 2],[],12⟩
noncomputable def f218(a:i218.J):Option Yt.J:=
(f225 ((a.1.1.2.1,()),())).bind fun b=>
(cc a.1.1.1 b.1.1).bind fun c=>
(cc c a.1.1.2.2.1).bind fun d=>
 some ((d,()),())
noncomputable def LW:aH:=aL af Tryz.f218 i218 Yt [] f218
theorem z218:aE O 218 LW:=aM awj Tryz.func218 (by kernel_rfl) ag (fun y=>by kernel_rfl) fun a=>by kernel_rfl
noncomputable abbrev avo:a8:=[(181,L2),(218,LW)]
theorem aaY:aT O (aZ af avo):=aY ⟨XJ,z218,⟨⟩⟩
abbrev A0:Shape:=⟨[ax 1 1 0,am 3,aj 4],[aw 1 [ah,ah,br .need,br .entry]],36⟩
abbrev Ij:List aR:=[(.exit 0,⟨[ax 1 1 0,am 3],[aw 1 [ah,ah,br .need,br .entry]],36⟩)]
noncomputable def BE(y:A0.J):bP A0 Ij:=
 bif(decide (y.1.2.2.1<(y.2.1.2.2.1.length:Int))) then
(cc y.1.2.1 ([110,101,101,100,32]:B)).bind fun a=>
(aS y.2.1.2.2.1 y.1.2.2.1).bind fun b=>
(f218 (((b.name,b.kind,b.a6,()),()),())).bind fun c=>
(cc a c.1.1).bind fun d=>
(cc d ([10]:B)).bind fun e=>
 some (.inl (((),e,(IntKind.i64.wrap (y.1.2.2.1+(1:Int))),()),(y.2.1.1,y.2.1.2.1,y.2.1.2.2.1,y.2.1.2.2.2.1,()),()))
else
 some (.inr (((),y.1.2.1,()),(y.2.1.1,y.2.1.2.1,y.2.1.2.2.1,y.2.1.2.2.2.1,()),()))
noncomputable def I3:A0.J->Option (aG Ij):=bA BE
theorem anf:aV O (ap (codeOf Tryz.f172) 1 58) (aX A0 Ij I3):=bR aaY (by kernel_rfl) ag fun y=>by kernel_rfl
abbrev i172:Shape:=⟨[ck 0 [ah,ah,br .need,br .entry]],[],36⟩
abbrev YZ:Shape:=⟨[am 2],[],36⟩
noncomputable def f172(a:i172.J):Option YZ.J:=
(cc ([112,97,99,107,32]:B) a.1.1.1).bind fun b=>
(cc b ([32]:B)).bind fun c=>
(cc c a.1.1.2.1).bind fun d=>
(cc d ([10]:B)).bind fun e=>
(I3 (((),e,(0:Int),()),(a.1.1.1,a.1.1.2.1,a.1.1.2.2.1,a.1.1.2.2.2.1,()),())).bind fun f=>
(cc f.1.2.1 ([10]:B)).bind fun g=>
(f181 ((f.2.1.2.2.2.1,()),())).bind fun h=>
(cc g h.1.1).bind fun i=>
 some ((i,()),())
noncomputable def _':aH:=aL af Tryz.f172 i172 YZ [] f172
theorem asW:aE O 172 _':=aM aaY Tryz.func172 (by kernel_rfl) (a7 anf ag) (fun y=>by kernel_rfl) fun a=>by kernel_rfl
noncomputable abbrev avT:a8:=[(172,_'),(173,_9)]
theorem awE:aT O (aZ af avT):=aY ⟨asW,z173,⟨⟩⟩
abbrev i123:Shape:=⟨[ck 0 [ah,ah,br .need,br .entry]],[],12⟩
abbrev Zw:Shape:=⟨[am 2],[],12⟩
noncomputable def f123(a:i123.J):Option Zw.J:=
(f172 (((a.1.1.1,a.1.1.2.1,a.1.1.2.2.1,a.1.1.2.2.2.1,()),()),())).bind fun b=>
(f173 ((b.1.1,()),())).bind fun c=>
(cc ([115,117,109,32]:B) c.1.1).bind fun d=>
(cc d ([10]:B)).bind fun e=>
(cc e b.1.1).bind fun f=>
 some ((f,()),())
noncomputable def Ma:aH:=aL af Tryz.f123 i123 Zw [] f123
theorem XN:aE O 123 Ma:=aM awE Tryz.func123 (by kernel_rfl) ag (fun y=>by kernel_rfl) fun a=>by kernel_rfl
noncomputable abbrev aAe:a8:=[(63,Dp),(119,aaE),(120,aaD)]
theorem adV:aT O (aZ af aAe):=aY ⟨KE,z119,ate,⟨⟩⟩
abbrev AD:Shape:=⟨[ax 1 1 0,ax 3 3 0,aO 16 .need,aj 17,aj 18],[aw 1 [ah,ah,br .need,br .entry],bv 5000193 .u8 3 1,aw 3 [.dN,.own 5000193]],34⟩
abbrev HZ:List aR:=[(.exit 0,⟨[ax 1 1 0,ax 3 3 0],[aw 1 [ah,ah,br .need,br .entry],bv 5000193 .u8 3 1,aw 3 [.dN,.own 5000193]],34⟩)]
noncomputable def Bu(y:AD.J):bP AD HZ:=
 bif(decide (y.1.2.2.2.2.1<y.1.2.2.2.1)) then
(aS y.1.2.2.1 y.1.2.2.2.2.1).bind fun a=>
(f119 (((a.name,a.kind,a.a6,()),()),())).bind fun b=>
(cc ([110,101,101,100,32]:B) b.1.1).bind fun c=>
(cc c ([10]:B)).bind fun d=>
(mK (((),d,()),y.2.2.1,((),(),()),())).bind fun e=>
 some (.inl (((),(),y.1.2.2.1,y.1.2.2.2.1,(IntKind.i64.wrap (y.1.2.2.2.2.1+(1:Int))),()),(y.2.1.1,y.2.1.2.1,y.2.1.2.2.1,y.2.1.2.2.2.1,()),e.2.1,((),(),()),()))
else
 some (.inr (((),(),()),(y.2.1.1,y.2.1.2.1,y.2.1.2.2.1,y.2.1.2.2.2.1,()),y.2.2.1,((),(),()),()))
noncomputable def IQ:AD.J->Option (aG HZ):=bA Bu
theorem amI:aV O (ap (codeOf Tryz.f68) 1 122) (aX AD HZ IQ):=bR adV (by kernel_rfl) ag fun y=>by kernel_rfl
abbrev i68:Shape:=⟨[ck 0 [ah,ah,br .need,br .entry]],[],34⟩
abbrev abS:Shape:=⟨[am 2],[],34⟩
noncomputable def f68(a:i68.J):Option abS.J:=
(cc ([112,97,99,107,32]:B) a.1.1.1).bind fun b=>
(cc b ([32]:B)).bind fun c=>
(cc c a.1.1.2.1).bind fun d=>
(cc d ([10]:B)).bind fun e=>
(mK (((),e,()),([]:List Int),((),(),()),())).bind fun f=>
(IQ (((),(),a.1.1.2.2.1,(a.1.1.2.2.1.length:Int),(0:Int),()),(a.1.1.1,a.1.1.2.1,a.1.1.2.2.1,a.1.1.2.2.2.1,()),f.2.1,((),(),()),())).bind fun g=>
(f120 ((g.2.1.2.2.2.1,()),())).bind fun h=>
(cc ([10]:B) h.1.1).bind fun i=>
(mK (((),i,()),g.2.2.1,((),(),()),())).bind fun j=>
 some (((strOf j.2.1),()),())
noncomputable def adw:aH:=aL af Tryz.f68 i68 abS [] f68
theorem awV:aE O 68 adw:=aM adV Tryz.func68 (by kernel_rfl) (a7 amI ag) (fun y=>by kernel_rfl) fun a=>by kernel_rfl
noncomputable abbrev aAx:a8:=[(55,EO),(68,adw),(69,adv)]
theorem aA1:aT O (aZ af aAx):=aY ⟨Mq,awV,awU,⟨⟩⟩
abbrev i36:Shape:=⟨[ck 0 [ah,ah,br .need,br .entry]],[],15⟩
abbrev aca:Shape:=⟨[am 2],[],15⟩
noncomputable def f36(a:i36.J):Option aca.J:=
(f55 (((a.1.1.1,a.1.1.2.1,a.1.1.2.2.1,a.1.1.2.2.2.1,()),()),())).bind fun b=>
 bif(!b.1.1) then
 some ((([]:B),()),())
else
(f68 (((a.1.1.1,a.1.1.2.1,a.1.1.2.2.1,a.1.1.2.2.2.1,()),()),())).bind fun c=>
(f69 ((c.1.1,()),())).bind fun d=>
(cc ([115,117,109,32]:B) d.1.1).bind fun e=>
(cc e ([10]:B)).bind fun f=>
(cc f c.1.1).bind fun g=>
 some ((g,()),())
noncomputable def NM:aH:=aL af Tryz.f36 i36 aca [] f36
theorem abn:aE O 36 NM:=aM aA1 Tryz.func36 (by kernel_rfl) ag (fun y=>by kernel_rfl) fun a=>by kernel_rfl
noncomputable abbrev aAc:a8:=[(83,yj),(123,Ma)]
theorem adU:aT O (aZ af aAc):=aY ⟨D6,XN,⟨⟩⟩
abbrev Cg:Shape:=⟨[ax 1 1 0,am 3,aj 4],[aw 1 [br .pack]],28⟩
abbrev JP:List aR:=[(.exit 0,⟨[am 3],[],28⟩)]
noncomputable def CH(y:Cg.J):bP Cg JP:=
 bif(decide (y.1.2.2.1<(y.2.1.1.length:Int))) then
(aS y.2.1.1 y.1.2.2.1).bind fun a=>
(f123 (((a.name,a.a6,a.bl,a.bI,()),()),())).bind fun b=>
(f83 (((b.1.1.length:Int),()),())).bind fun c=>
(cc y.1.2.1 c.1.1).bind fun d=>
(cc d ([10]:B)).bind fun e=>
(cc e b.1.1).bind fun f=>
 some (.inl (((),f,(IntKind.i64.wrap (y.1.2.2.1+(1:Int))),()),(y.2.1.1,()),()))
else
 some (.inr ((y.1.2.1,()),()))
noncomputable def Kb:Cg.J->Option (aG JP):=bA CH
theorem apm:aV O (ap (codeOf Tryz.f70) 1 58) (aX Cg JP Kb):=bR adU (by kernel_rfl) ag fun y=>by kernel_rfl
abbrev i70:Shape:=⟨[ck 0 [br .pack]],[],28⟩
abbrev abQ:Shape:=⟨[am 2],[],28⟩
noncomputable def f70(a:i70.J):Option abQ.J:=
(Kb (((),([]:B),(0:Int),()),(a.1.1.1,()),())).bind fun b=>
 some ((b.1.1,()),())
noncomputable def EN:aH:=aL af Tryz.f70 i70 abQ [] f70
theorem z70:aE O 70 EN:=aM adU Tryz.func70 (by kernel_rfl) (a7 apm ag) (fun y=>by kernel_rfl) fun a=>by kernel_rfl
noncomputable abbrev aAw:a8:=[(30,sp),(70,EN)]
theorem aA0:aT O (aZ af aAw):=aY ⟨uA,z70,⟨⟩⟩
abbrev i37:Shape:=⟨[ck 0 [br .pack]],[],8⟩
abbrev ab9:Shape:=⟨[am 2],[],8⟩
noncomputable def f37(a:i37.J):Option ab9.J:=
(f30 (((a.1.1.1,()),()),())).bind fun b=>
 bif(!b.1.1) then
 some ((([]:B),()),())
else
(f70 (((a.1.1.1,()),()),())).bind fun c=>
 some ((c.1.1,()),())
noncomputable def adI:aH:=aL af Tryz.f37 i37 ab9 [] f37
theorem z37:aE O 37 adI:=aM aA0 Tryz.func37 (by kernel_rfl) ag (fun y=>by kernel_rfl) fun a=>by kernel_rfl
def ea(k:Int):B:=bif k==1 then [61] else bif k==2 then [62,61] else bif k==3 then [60] else []
theorem Gh(k:Int):(ea k).length<=2:=by unfold ea;cases k==1<;>cases k==2<;>cases k==3<;>decide
def cX(n:bF):B:=n.name++ea n.kind++n.a6
theorem RG(k:Int):f225 ((k,()),())=some ((ea k,()),()):=by
 simp only[f225,ea];cases k==1<;>cases k==2<;>cases k==3<;>rfl
theorem Hd{n:bF}(hb:yu n):(cX n).length<=4194306:=by
 have:=Gh n.kind;have h1:=hb.1;have h2:=hb.2;unfold cX;simp;omega
theorem SZ(n:bF)(hb:yu n):f218 (((n.name,(n.kind,(n.a6,()))),()),())=some ((cX n,()),()):=by
 have:=Gh n.kind;have h1:=hb.1;have h2:=hb.2;have aym:=RG n.kind;simp only[f218,aym,Y];rw[dI (by omega),Y,dI (by simp;omega)]
 rfl
theorem ahI{n:bF}(h:dR n=true)(h1:(n.kind==1)=false)(h2:(n.kind==2)=false)(h3:(n.kind==3)=false):n.a6=[]:=by
 unfold dR at h;simp only[bC,Bool.or_eq_true] at h;rcases h.2 with h|h
 ·exact eq_of_beq h.2
 ·have:=s4 h.1;simp at h1 h2 h3;omega
theorem aiy(n:bF)(hb:yu n)(f_:dR n=true):f119 (((n.name,(n.kind,(n.a6,()))),()),())=some ((cX n,()),()):=by
 have h0:=zi (((n.name,(n.kind,(n.a6,()))),()),()) hb.1 hb.2;have h0:f102 (((n.name,(n.kind,(n.a6,()))),()),())=some ((dR n,()),()):=h0;have h1:=hb.1;have h2:=hb.2;simp only[f119,h0,f_,Y,bu,ak,cX,ea];cases aI:(n.kind==1) with
 |true=>
  simp only[ad];rw[dI (by simp;omega),Y,dI (by simp;omega)]
  rfl
 |false=>
  cases aJ:(n.kind==2) with
  |true=>
   simp only[ad,ak];rw[dI (by simp;omega),Y,dI (by simp;omega)]
   rfl
  |false=>
   cases bS:(n.kind==3) with
   |true=>
    simp only[ad,ak];rw[dI (by simp;omega),Y,dI (by simp;omega)]
    rfl
   |false=>simp only[ak,ahI f_ aI aJ bS,List.append_nil]
def cL(n:bF):B:=[110,101,101,100,32]++cX n++[10]
theorem ajt{n:bF}(hb:yu n):(cL n).length<=4194312:=by
 have:=Hd hb;unfold cL;simp;omega
def iG(p:aK):B:=[112,97,99,107,32]++p.name++[32]++p.a6++[10]
def dJ(p:aK):B:=iG p++p.bl.flatMap cL++[10]++dt p.bI
def bD(p:aK):B:=[115,117,109,32]++qa (dJ p)++[10]++dJ p
def cS(s:B):B:=Lib.itoa (s.length:Int)++[10]++s
def ce(ps:List aK):B:=ps.flatMap fun p=>cS (bD p)
theorem nq{p:aK}(h:cx p=true):iV p.name=true/\eD p.a6=true/\(∀n,n∈p.bl->dR n=true)/\p.bl.length<=6/\kg [] (p.name::p.bl.map (·.name))=false/\dQ p.bI=true:=by
 unfold cx at h;simp only[bC] at h;obtain⟨⟨⟨h1,h2⟩,h3⟩,aF⟩:=h;unfold rc at h3;simp only[bC,dY,List.all_eq_true,Bool.not_eq_true'] at h3;exact⟨h1,h2,h3.1.1,h3.1.2,h3.2,aF⟩
theorem qQ{t:List aB}(h:dQ t=true):∀e,e∈t->oj e:=fun e he=>HM (vu h e he)
theorem vo{ns:List bF}(hb:ux ns)(hl:ns.length<=6)(i:Nat):((ns.take i).flatMap cL).length<=25165872:=by
 have h1:=ny (f:=cL) (xs:=ns.take i) (n:=4194312) fun n hn=>ajt (hb.2 n (qV hn))
 have h2:=(List.take_sublist i ns).length_le;exact Nat.le_trans h1 (by omega)
theorem GN{p:aK}(hb:jX p)(hk:cx p=true):(dJ p).length<=100663296:=by
 obtain⟨_,_,_,cp,_,ay⟩:=nq hk;have h1:=vo hb.2.2.1 cp p.bl.length;rw[List.take_length] at h1;have h2:=za (qQ ay) hb.2.2.2 (j3 ay);have h3:=hb.1;have aF:=hb.2.1;unfold dJ iG;generalize p.bl.flatMap cL=A at h1 ⊢;generalize dt p.bI=bx at h2 ⊢;simp;omega
theorem Af{p:aK}(hb:jX p)(hk:cx p=true):(bD p).length<=100663400:=by
 have:=GN hb hk;unfold bD;generalize dJ p=bx at this ⊢;simp[zP];omega
theorem akc(p:aK)(hb:jX p)(hk:cx p=true):f172 (((p.name,(p.a6,(p.bl,(p.bI,())))),()),())=some ((dJ p,()),()):=by
 obtain⟨_,_,hn,cp,_,ay⟩:=nq hk;have h3:=hb.1;have aF:=hb.2.1;have E4:=F2 p.bI (qQ ay) hb.2.2.2 (j3 ay);have ayI:(iG p).length<=4194320:=by unfold iG;simp;omega
 have aI:I3 (((),(iG p,((0:Int),()))),((p.name,(p.a6,(p.bl,(p.bI,())))),()))=some (((),(iG p++p.bl.flatMap cL,())),((p.name,(p.a6,(p.bl,(p.bI,())))),())):=by
  have:=ga (g:=BE) (fun i=>(((),(iG p++(p.bl.take i).flatMap cL,((i:Int),()))),((p.name,(p.a6,(p.bl,(p.bI,())))),()))) p.bl.length (b:=(((),(iG p++p.bl.flatMap cL,())),((p.name,(p.a6,(p.bl,(p.bI,())))),()))) (fun i hi=>?_) ?_ p.bl.length 0 (by omega)
  ·rw[List.take_zero,List.flatMap_nil,List.append_nil] at this;exact this
  ·obtain⟨n,he⟩:∃n,p.bl[i]? =some n:=⟨p.bl[i],dZ hi⟩;have eG:=eJ he;have jb:=vo hb.2.2.1 cp i;have hX:=Hd (hb.2.2.1.2 n eG);simp only[BE,ct hi,ad,cd,he,Y,SZ n (hb.2.2.1.2 n eG),nr cL he,b9 (i:=i) (by unfold aA;omega)]
   generalize List.flatMap cL (List.take i p.bl)=A at jb ⊢;rw[dI (by simp;omega),Y,dI (by simp;omega),Y,dI (by simp;omega),Y]
   simp only[cL,List.append_assoc]
  ·simp only[BE,dL,ak,List.take_length]
 have jb:=vo hb.2.2.1 cp p.bl.length;rw[List.take_length] at jb;have h2:=za (qQ ay) hb.2.2.2 (j3 ay);have bU:iG p=[112,97,99,107,32]++p.name++[32]++p.a6++[10]:=rfl;simp only[f172];repeat(rw[dI (by simp;omega),Y])
 rw[<-bU,aI];simp only[Y,dJ];generalize p.bl.flatMap cL=A at jb ⊢;rw[dI (by simp;omega),Y,E4,Y]
 generalize dt p.bI=bx at h2 ⊢;rw[dI (by simp;omega)]
 rfl
theorem HV(p:aK)(hb:jX p)(hk:cx p=true):f123 (((p.name,(p.a6,(p.bl,(p.bI,())))),()),())=some ((bD p,()),()):=by
 have hl:=GN hb hk;have h1:=aq6 (dJ p) (by unfold qI;omega)
 have hs:=zP (dJ p);simp only[f123,akc p hb hk,h1,Y,bD];generalize qa (dJ p)=S at hs ⊢;generalize dJ p=bx at hl ⊢;rw[dI (by simp;omega),Y,dI (by simp;omega),Y,dI (by simp;omega)]
 rfl
theorem ag9(p:aK)(hb:jX p)(hk:cx p=true):f68 (((p.name,(p.a6,(p.bl,(p.bI,())))),()),())=some ((dJ p,()),()):=by
 obtain⟨_,_,hn,cp,_,ay⟩:=nq hk;have h3:=hb.1;have aF:=hb.2.1;have E4:=agk p.bI hb.2.2.2;rw[ay] at E4;have ayI:(iG p).length<=4194320:=by unfold iG;simp;omega
 have aI:IQ (((),((),(p.bl,((p.bl.length:Int),((0:Int),()))))),((p.name,(p.a6,(p.bl,(p.bI,())))),(bytesOf (iG p),(((),((),())),()))))=some (((),((),())),((p.name,(p.a6,(p.bl,(p.bI,())))),(bytesOf (iG p++p.bl.flatMap cL),(((),((),())),())))):=by
  have:=ga (g:=Bu) (fun i=>(((),((),(p.bl,((p.bl.length:Int),((i:Int),()))))),((p.name,(p.a6,(p.bl,(p.bI,())))),(bytesOf (iG p++(p.bl.take i).flatMap cL),(((),((),())),()))))) p.bl.length (b:=(((),((),())),((p.name,(p.a6,(p.bl,(p.bI,())))),(bytesOf (iG p++p.bl.flatMap cL),(((),((),())),()))))) (fun i hi=>?_) ?_ p.bl.length 0 (by omega)
  ·rw[List.take_zero,List.flatMap_nil,List.append_nil] at this;exact this
  ·obtain⟨n,he⟩:∃n,p.bl[i]? =some n:=⟨p.bl[i],dZ hi⟩;have eG:=eJ he;have jb:=vo hb.2.2.1 cp i;have hX:=Hd (hb.2.2.1.2 n eG);simp only[Bu,ct hi,ad,cd,he,Y,aiy n (hb.2.2.1.2 n eG) (hn n eG),nr cL he,b9 (i:=i) (by unfold aA;omega)]
   generalize List.flatMap cL (List.take i p.bl)=A at jb ⊢;rw[dI (by simp;omega),Y,dI (by simp;omega),Y,pN _ _ (by unfold aA;rw[jB];simp;omega),Y,<-List.append_assoc,py (iG p++A)]
   rfl
  ·simp only[Bu,dL,ak,List.take_length]
 have jb:=vo hb.2.2.1 cp p.bl.length;rw[List.take_length] at jb;have h2:=za (qQ ay) hb.2.2.2 (j3 ay);have bU:iG p=[112,97,99,107,32]++p.name++[32]++p.a6++[10]:=rfl;simp only[f68];repeat(rw[dI (by simp;omega),Y])
 rw[<-bU,pN _ _ (by unfold aA;simp;omega),Y]
 simp only[List.nil_append,aI,Y,E4,ad,dJ];generalize p.bl.flatMap cL=A at jb ⊢;generalize dt p.bI=bx at h2 ⊢;rw[dI (by simp;omega),Y,pN _ _ (by unfold aA;rw[jB];simp;omega),Y]
 rw[<-py,vq,List.append_assoc _ [10] bx]
theorem FH(p:aK)(hb:jX p):f36 (((p.name,(p.a6,(p.bl,(p.bI,())))),()),())=some ((bif cx p then bD p else [],()),()):=by
 have h0:=zh (((p.name,(p.a6,(p.bl,(p.bI,())))),()),()) hb;have h0:f55 (((p.name,(p.a6,(p.bl,(p.bI,())))),()),())=some ((cx p,()),()):=h0;simp only[f36,h0,Y];cases hk:cx p with
 |false=>rfl
 |true=>
  have hl:=GN hb hk;have h1:=aoW (dJ p) (by unfold qI;omega)
  have hs:=zP (dJ p);simp only[bu,ak,ad,ag9 p hb hk,h1,Y,bD];generalize qa (dJ p)=S at hs ⊢;generalize dJ p=bx at hl ⊢;rw[dI (by simp;omega),Y,dI (by simp;omega),Y,dI (by simp;omega)]
  rfl
theorem Gg{p:aK}(hb:jX p)(hk:cx p=true):(cS (bD p)).length<=100663500:=by
 have h1:=Af hb hk;have h2:=j4 (bD p).length (by omega)
 unfold cS;simp;omega
theorem afa{ps:List aK}(hb:fu ps)(hk:∀p,p∈ps->cx p=true)(i:Nat):((ps.take i).flatMap fun p=>cS (bD p)).length<=211106660352000:=by
 have h1:=ny (f:=fun p=>cS (bD p)) (xs:=ps.take i) (n:=100663500) fun p hp=>Gg (hb.2 p (qV hp)) (hk p (qV hp))
 have h2:=(List.take_sublist i ps).length_le;have h3:ps.length<=2097152:=hb.1;have aF:(ps.take i).length*100663500<=2097152*100663500:=Nat.mul_le_mul_right _ (by omega)
 omega
theorem Az(ps:List aK)(hb:fu ps)(hk:∀p,p∈ps->cx p=true):f70 (((ps,()),()),())=some ((ce ps,()),()):=by
 have aI:Kb (((),(([]:B),((0:Int),()))),((ps,()),()))=some ((ce ps,()),()):=by
  refine ga (g:=CH) (fun i=>(((),((ps.take i).flatMap (fun p=>cS (bD p)),((i:Int),()))),((ps,()),()))) ps.length (fun i hi=>?_) ?_ ps.length 0 (by omega)
  ·obtain⟨p,he⟩:∃p,ps[i]? =some p:=⟨ps[i],dZ hi⟩;have eG:=eJ he;have jb:=afa hb hk i;have hX:=Af (hb.2 p eG) (hk p eG);have h2:=j4 (bD p).length (by omega)
   have o9:=hb.1;simp only[CH,ct hi,ad,cd,he,Y,HV p (hb.2 p eG) (hk p eG),AA (bD p).length (by omega),nr (fun p=>cS (bD p)) he,b9 (i:=i) (by unfold aA;omega)]
   generalize List.flatMap (fun p=>cS (bD p)) (List.take i ps)=A at jb ⊢
   rw[dI (by omega),Y,dI (by simp;omega),Y,dI (by simp;omega),Y]
   simp only[cS,List.append_assoc]
  ·simp only[CH,dL,ak,List.take_length];rfl
 simp only[f70,aI,Y]
theorem kW{ps:List aK}(h:eE ps=true):(∀p,p∈ps->cx p=true)/\ps.length<=5:=by
 unfold eE at h;simp only[bC,dY,List.all_eq_true] at h;exact⟨h.1.1.1.1,h.1.1.2⟩
theorem aiv(ps:List aK)(hb:fu ps)(hv:j2 ps):f37 (((ps,()),()),())=some ((bif eE ps then ce ps else [],()),()):=by
 have h0:=vL (((ps,()),()),()) hb hv;have h0:f30 (((ps,()),()),())=some ((eE ps,()),()):=h0;simp only[f37,h0,Y];cases hr:eE ps with
 |false=>rfl
 |true=>simp only[bu,ak,ad,Az ps hb (kW hr).1,Y]
def cn(c:UInt8)(s:B):Prop:=∀x,x∈s->x≠c
theorem cn.df{c:UInt8}{s t:B}(h:cn c s)(k:cn c t):cn c (s++t):=fun x hx=>(bp.1 hx).elim (h x) (k x)
theorem cn.nil(c:UInt8):cn c []:=fun x hx=>by cases hx
theorem cn.tail{c b:UInt8}{s:B}(h:cn c (b::s)):cn c s:=fun x hx=>h x (cf _ hx)
theorem cn.head{c b:UInt8}{s:B}(h:cn c (b::s)):(b==c)=false:=by
 have:=h b ci;simpa using this
theorem cn.lit{c:UInt8}{s:B}(h:s.all (fun x=>!(x==c))=true):cn c s:=fun x hx=>by
 have:=List.all_eq_true.1 h x hx;simpa using this
theorem QO{c:UInt8}:∀{s:B},cn c s->bN c s=[s]:=by
 intro s;induction s with
 |nil=>intro _;rfl
 |cons b r ih=>
  intro h;unfold bN;rw[h.head,ih h.tail];rfl
theorem Pm(c b:UInt8)(r:B):bN c (b::r)=bif b==c then []::bN c r else match bN c r with|x::xs=>(b::x)::xs|[]=>[[b]]:=rfl
theorem sP{c:UInt8}{b:B}:∀{a:B},cn c a->bN c (a++c::b)=a::bN c b:=by
 intro a;induction a with
 |nil=>intro _;show bN c (c::b)=_;rw[Pm,beq_self_eq_true];rfl
 |cons x r ih=>
  intro h;show bN c (x::(r++c::b))=_;rw[Pm,h.head,ih h.tail];rfl
theorem PU{c x:UInt8}:∀{s:B},x∈s->x≠c->∃p,p∈bN c s/\x∈p:=by
 intro s;induction s with
 |nil=>intro h;cases h
 |cons b r ih=>
  intro h hx;unfold bN;cases hb:b==c with
  |true=>
   have hb:=eq_of_beq hb;rcases bO.1 h with rfl|h
   ·exact absurd hb hx
   ·obtain⟨p,h1,h2⟩:=ih h hx;exact⟨p,cf _ h1,h2⟩
  |false=>
   simp only[ak];have hne:=pz c r;split
   ·rename_i y bm hy;rcases bO.1 h with rfl|h
    ·exact⟨_,ci,ci⟩
    ·obtain⟨p,h1,h2⟩:=ih h hx;rw[hy] at h1;rcases bO.1 h1 with rfl|h1
     ·exact⟨_,ci,cf _ h2⟩
     ·exact⟨p,cf _ h1,h2⟩
   ·rename_i hy;exact absurd hy hne
def dK(c:UInt8):B->Option (B×B)
 |[]=>none
 |b::r=>bif b==c then some ([],r) else match dK c r with
  |some (x,y)=>some (b::x,y)
  |none=>none
theorem aol{c:UInt8}:∀{s:B},cn c s->dK c s=none:=by
 intro s;induction s with
 |nil=>intro _;rfl
 |cons b r ih=>intro h;simp only[dK,h.head,ak,ih h.tail]
theorem s9{c:UInt8}{b:B}:∀{a:B},cn c a->dK c (a++c::b)=some (a,b):=by
 intro a;induction a with
 |nil=>intro _;simp[dK]
 |cons x r ih=>intro h;show dK c (x::(r++c::b))=_;simp only[dK,h.head,ak,ih h.tail]
theorem jD{c:UInt8}:∀{s x y:B},dK c s=some (x,y)->s=x++c::y/\cn c x:=by
 intro s;induction s with
 |nil=>intro x y h;cases h
 |cons b r ih=>
  intro x y h;simp only[dK] at h;cases hb:b==c with
  |true=>
   rw[hb] at h;simp only[ad,bE,Prod.mk.injEq] at h;obtain⟨rfl,rfl⟩:=h;exact⟨by rw[eq_of_beq hb];rfl,cn.nil c⟩
  |false=>
   rw[hb] at h;simp only[ak] at h;split at h
   ·rename_i iQ y' hc;cases h;obtain⟨h1,h2⟩:=ih hc;refine⟨by rw[h1];rfl,fun z hz=>?_⟩
    rcases bO.1 hz with rfl|hz
    ·simpa using hb
    ·exact h2 z hz
   ·cases h
theorem ajY{c:UInt8}:∀{s:B},dK c s=none->cn c s:=by
 intro s;induction s with
 |nil=>intro _;exact cn.nil c
 |cons b r ih=>
  intro h;simp only[dK] at h;cases hb:b==c with
  |true=>rw[hb] at h;cases h
  |false=>
   rw[hb] at h;simp only[ak] at h;split at h
   ·cases h
   ·rename_i hc;intro z hz;rcases bO.1 hz with rfl|hz
    ·simpa using hb
    ·exact ih hc z hz
theorem Ud(c:UInt8):∀s:B,Lib.indexByte s c=match dK c s with|some (x,_)=>(x.length:Int)|none=>-1:=by
 intro s;induction s with
 |nil=>rfl
 |cons b r ih=>
  simp only[dK];unfold Lib.indexByte;cases hb:b==c with
  |true=>simp
  |false=>
   rw[ih];simp only[ak];cases hc:dK c r with
   |none=>simp
   |some q=>obtain⟨x,y⟩:=q;simp
theorem PV(c:UInt8)(s:B):bN c s=match dK c s with|some (x,y)=>x::bN c y|none=>[s]:=by
 cases h:dK c s with
 |none=>exact QO (ajY h)
 |some q=>
  obtain⟨x,y⟩:=q;obtain⟨h1,h2⟩:=jD h;show bN c s=x::bN c y;rw[h1];exact sP h2
theorem Fs{s:B}(h:iV s=true):∀x,x∈s->(97<=x.toNat/\x.toNat<=122)\/(48<=x.toNat/\x.toNat<=57):=by
 cases s with
 |nil=>cases h
 |cons b r=>
  rw[Pt] at h;simp only[bC] at h;intro x hx;have:=List.all_eq_true.1 h.1.2 x hx;simp only[jn,c7,Bool.or_eq_true,bC,dY] at this;omega
theorem Q8{s:B}(h:iV s=true){c:UInt8}(hc:c.toNat<48\/(57<c.toNat/\c.toNat<97)):cn c s:=fun x hx e=>by
 have:=Fs h x hx;rw[e] at this;omega
theorem afw{s:B}(h:eD s=true):∀x,x∈s->x=46\/(48<=x.toNat/\x.toNat<=57):=by
 intro x hx;by_cases he:x=46
 ·exact .inl he
 ·obtain⟨p,h1,h2⟩:=PU hx he;unfold eD iE at h;simp only[bC] at h;have:=List.all_eq_true.1 h.1 p h1;unfold fS at this;simp only[bC] at this;have:=jf (List.all_eq_true.1 this.1.1.1.1 x h2);exact .inr (by omega)
theorem Qj{s:B}(h:eD s=true){c:UInt8}(hc:c.toNat<48\/57<c.toNat)(aa:c≠46):cn c s:=fun x hx e=>by
 rcases afw h x hx with h1|h1
 ·exact aa (e▸h1)
 ·rw[e] at h1;omega
theorem Q9{s:B}(h:gK s=true){c:UInt8}(hc:kx c.toNat=false)(aa:c≠47):cn c s:=fun x hx e=>by
 subst e;obtain⟨p,h1,h2⟩:=PU hx aa;unfold gK at h;simp only[bC] at h;have:=List.all_eq_true.1 h.1 p h1;unfold kE at this;simp only[bC] at this;have:=List.all_eq_true.1 this.1.1.1 x h2;rw[hc] at this;cases this
theorem Jy:∀n:Nat,(Lib.decDigits n).all c7=true:=by
 intro n;induction n using Nat.strongRecOn with
 |_ n ih=>
  have aa:∀m:Nat,m<10->c7 (UInt8.ofNat (48+m))=true:=fun m hm=>by
   unfold c7;have:(UInt8.ofNat (48+m)).toNat=48+m:=by rw[UInt8.toNat_ofNat'];omega
   rw[this];simp;omega
  rw[Lib.decDigits];split
  ·rename_i h;show(c7 _&&true)=true;rw[aa n h];rfl
  ·rename_i h;rw[List.all_append,ih (n/10) (by omega)]
   show(true&&(c7 _&&true))=true;rw[aa (n%10) (by omega)];rfl
theorem Wi(n:Nat):Lib.decDigits n≠[]:=by
 rw[Lib.decDigits];split<;>simp
theorem wm:∀n:Nat,du (Lib.decDigits n)=(n:Int):=by
 intro n;induction n using Nat.strongRecOn with
 |_ n ih=>
  have aa:∀m:Nat,m<10->((UInt8.ofNat (48+m)).toNat:Int)-48=(m:Int):=fun m hm=>by
   have:(UInt8.ofNat (48+m)).toNat=48+m:=by rw[UInt8.toNat_ofNat'];omega
   rw[this];omega
  rw[Lib.decDigits];split
  ·rename_i h;show eA 0 _=_;unfold eA;rw[aa n h];omega
  ·rename_i h;have:=ih (n/10) (by omega)
   unfold du at this ⊢;rw[List.foldl_append,this];show eA _ _=_;unfold eA;rw[aa (n%10) (by omega)];omega
theorem ajX:∀n:Nat,1<=n->∃b r,Lib.decDigits n=b::r/\((b.toNat:Int)==48)=false:=by
 intro n;induction n using Nat.strongRecOn with
 |_ n ih=>
  intro hn;rw[Lib.decDigits];split
  ·rename_i h;refine⟨_,[],rfl,?_⟩;have:(UInt8.ofNat (48+n)).toNat=48+n:=by rw[UInt8.toNat_ofNat'];omega
   rw[this,beq_eq_false_iff_ne];omega
  ·rename_i h;obtain⟨b,r,h1,h2⟩:=ih (n/10) (by omega) (by omega)
   rw[h1];exact⟨b,_,rfl,h2⟩
theorem SQ(n:Nat):iF (Lib.decDigits n)=false:=by
 by_cases h:n<10
 ·rw[Lib.decDigits,dif_pos h];rfl
 ·obtain⟨b,r,h1,h2⟩:=ajX n (by omega)
  rw[h1];cases r with
  |nil=>rfl
  |cons x r=>exact h2
theorem HP:∀(k n:Nat),n<10^(k+1)->(Lib.decDigits n).length<=k+1:=by
 intro k;induction k with
 |zero=>intro n h;rw[Lib.decDigits,dif_pos (by omega)];simp
 |succ k ih=>
  intro n h;rw[Lib.decDigits];split
  ·simp
  ·have:=ih (n/10) (by rw[Nat.pow_succ] at h;omega)
   simp;omega
theorem ap7(n:Nat){c:UInt8}(hc:c.toNat<48\/57<c.toNat):cn c (Lib.decDigits n):=fun x hx e=>by
 have:=jf (List.all_eq_true.1 (Jy n) x hx);rw[e] at this;omega
theorem Ub(n:Nat){c:UInt8}(hc:c.toNat<48\/57<c.toNat):cn c (Lib.itoa (n:Int)):=by rw[ox];exact ap7 n hc
theorem aoe:∀k:Nat,k<16->jN k≠10/\jN k≠32:=by decide
theorem Ue(w:Int):cn 10 (gj w):=fun x hx=>by
 simp only[gj,bO,List.not_mem_nil,or_false] at hx;rcases hx with rfl|rfl|rfl|rfl|rfl|rfl|rfl|rfl<;>exact(aoe _ (Nat.mod_lt _ (by decide))).1
theorem Tm(s:B):cn 10 (qa s):=(Ue _).df (Ue _)
def il:B:=[100,105,114]
def ij:B:=[108,105,110,107]
def iH:B:=[102,105,108,101]
def mD(e:aB):List B:=bif e.kind==1 then [il,Lib.itoa e.mode,e.path] else bif e.kind==3 then [ij,e.path,e.text] else [iH,Lib.itoa e.mode,e.path,Lib.itoa (e.text.length:Int)]
def lX:List B->B
 |[]=>[]
 |[x]=>x
 |x::y::r=>x++32::lX (y::r)
def pZ(e:aB):B:=lX (mD e)
theorem P5:∀{ws:List B},ws≠[]->(∀w,w∈ws->cn 32 w)->bN 32 (lX ws)=ws:=by
 intro ws;induction ws with
 |nil=>intro h;exact absurd rfl h
 |cons x r ih=>
  intro _ h;cases r with
  |nil=>exact QO (h x ci)
  |cons y r=>
   show bN 32 (x++32::lX (y::r))=_;rw[sP (h x ci),ih (by simp) fun w hw=>h w (cf _ hw)]
theorem Ua{c:UInt8}(hc:c≠32):∀{ws:List B},(∀w,w∈ws->cn c w)->cn c (lX ws):=by
 intro ws;induction ws with
 |nil=>intro _;exact cn.nil c
 |cons x r ih=>
  intro h;cases r with
  |nil=>exact h x ci
  |cons y r=>
   refine(h x ci).df fun z hz=>?_
   rcases bO.1 hz with rfl|hz
   ·exact fun e=>hc e.symm
   ·exact ih (fun w hw=>h w (cf _ hw)) z hz
theorem ahZ{e:aB}(h:e7 e=true):gK e.path=true:=by
 unfold e7 at h;simp only[bC] at h;exact h.1
theorem FW{e:aB}(h:e7 e=true)(hk:e.kind=3):gK e.text=true/\e.mode=0:=by
 unfold e7 at h;rw[hk] at h;simp only[bC] at h;have h2:((e.mode==0)&&gK e.text)=true:=h.2;simp only[bC,beq_iff_eq] at h2;exact⟨h2.2,h2.1⟩
theorem Rq{e:aB}(h:e7 e=true)(hk:e.kind=1):e.text=[]:=by
 unfold e7 at h;rw[hk] at h;simp only[bC] at h;have h2:(within e.mode 0 7&&e.text==[])=true:=h.2;simp only[bC] at h2;exact eq_of_beq h2.2
theorem P'{e:aB}(h:e7 e=true)(hk:e.kind=2):oJ e.text=true:=by
 unfold e7 at h;rw[hk] at h;simp only[bC] at h;have h2:(within e.mode 0 7&&oJ e.text)=true:=h.2;simp only[bC] at h2;exact h2.2
theorem Hg{e:aB}(h:e7 e=true):∃n:Nat,e.mode=n/\n<=7:=by
 have:=HM h;obtain⟨n,hn⟩:=Int.eq_ofNat_of_zero_le this.1;exact⟨n,hn,by have:=this.2;omega⟩
theorem Cp{s:B}(h:gK s=true):cn 32 s:=Q9 h (by decide) (by decide)
theorem Cq{s:B}(h:gK s=true):cn 10 s:=Q9 h (by decide) (by decide)
theorem Kg(n:Nat):cn 32 (Lib.itoa (n:Int)):=Ub n (by decide)
theorem Cv(n:Nat):cn 10 (Lib.itoa (n:Int)):=Ub n (by decide)
theorem F0{e:aB}(h:e7 e=true):(∀w,w∈mD e->cn 32 w)/\∀w,w∈mD e->cn 10 w:=by
 obtain⟨n,hn,_⟩:=Hg h;have hp:=ahZ h;unfold mD;rw[hn];rcases vz h with hk|hk|hk<;>rw[hk]
 ·refine⟨fun w hw=>?_,fun w hw=>?_⟩<;>have hw:w∈[il,Lib.itoa (n:Int),e.path]:=hw<;>simp only[bO,List.not_mem_nil,or_false] at hw<;>rcases hw with rfl|rfl|rfl
  ·exact cn.lit (by decide)
  ·exact Kg n
  ·exact Cp hp
  ·exact cn.lit (by decide)
  ·exact Cv n
  ·exact Cq hp
 ·refine⟨fun w hw=>?_,fun w hw=>?_⟩<;>have hw:w∈[iH,Lib.itoa (n:Int),e.path,Lib.itoa (e.text.length:Int)]:=hw<;>simp only[bO,List.not_mem_nil,or_false] at hw<;>rcases hw with rfl|rfl|rfl|rfl
  ·exact cn.lit (by decide)
  ·exact Kg n
  ·exact Cp hp
  ·exact Kg _
  ·exact cn.lit (by decide)
  ·exact Cv n
  ·exact Cq hp
  ·exact Cv _
 ·have ay:=(FW h hk).1;refine⟨fun w hw=>?_,fun w hw=>?_⟩<;>have hw:w∈[ij,e.path,e.text]:=hw<;>simp only[bO,List.not_mem_nil,or_false] at hw<;>rcases hw with rfl|rfl|rfl
  ·exact cn.lit (by decide)
  ·exact Cp hp
  ·exact Cp ay
  ·exact cn.lit (by decide)
  ·exact Cq hp
  ·exact Cq ay
theorem alF{e:aB}(h:e7 e=true):cn 10 (pZ e):=Ua (by decide) (F0 h).2
def wV(e:aB)(r:B):B:=bif e.kind==2 then e.text++10::r else r
theorem alE{e:aB}(h:e7 e=true)(r:B):eo e++r=pZ e++10::wV e r:=by
 unfold eo pZ mD wV;rcases vz h with hk|hk|hk<;>rw[hk]
 ·simp[lX,il]
 ·simp[lX,iH]
 ·simp[lX,ij]
theorem Rf{e:aB}(h:e7 e=true)(r:B):dK 10 (eo e++r)=some (pZ e,wV e r):=by
 rw[alE h];exact s9 (alF h)
def iX:B:=[112,97,99,107]
def gh:B:=[110,101,101,100]
def et(p:aK):B:=lX [iX,p.name,p.a6]
theorem XW{s:B}(h:iV s=true):cn 32 s:=Q8 h (by decide)
theorem XX{s:B}(h:iV s=true):cn 10 s:=Q8 h (by decide)
theorem XO{s:B}(h:eD s=true):cn 32 s:=Qj h (by decide) (by decide)
theorem XP{s:B}(h:eD s=true):cn 10 s:=Qj h (by decide) (by decide)
theorem FD{p:aK}(h:cx p=true):bN 32 (et p)=[iX,p.name,p.a6]:=by
 obtain⟨h1,h2,_⟩:=nq h;refine P5 (by simp) fun w hw=>?_
 simp only[bO,List.not_mem_nil,or_false] at hw;rcases hw with rfl|rfl|rfl
 ·exact cn.lit (by decide)
 ·exact XW h1
 ·exact XO h2
theorem SF{p:aK}(h:cx p=true):cn 10 (et p):=by
 obtain⟨h1,h2,_⟩:=nq h;refine Ua (by decide) fun w hw=>?_
 simp only[bO,List.not_mem_nil,or_false] at hw;rcases hw with rfl|rfl|rfl
 ·exact cn.lit (by decide)
 ·exact XX h1
 ·exact XP h2
def jh(p:aK):B:=p.bl.flatMap cL++10::dt p.bI
theorem vR(p:aK):dJ p=et p++10::jh p:=by
 unfold dJ iG et jh;simp[lX,iX]
theorem Ry{p:aK}(h:cx p=true):dK 10 (dJ p)=some (et p,jh p):=by rw[vR];exact s9 (SF h)
def e8(p:aK):B:=[115,117,109,32]++qa (dJ p)
theorem v6(p:aK):bD p=e8 p++10::dJ p:=by unfold bD e8;simp
theorem alq(p:aK):dK 10 (bD p)=some (e8 p,dJ p):=by
 rw[v6];exact s9 ((cn.lit (by decide)).df (Tm _))
theorem yV{n:bF}(h:dR n=true):iV n.name=true/\((n.kind=0/\n.a6=[])\/((n.kind=1\/n.kind=2\/n.kind=3)/\eD n.a6=true)):=by
 unfold dR at h;simp only[bC,Bool.or_eq_true] at h;refine⟨h.1,?_⟩;rcases h.2 with h2|h2
 ·exact .inl ⟨eq_of_beq h2.1,eq_of_beq h2.2⟩
 ·exact .inr ⟨by have:=s4 h2.1;omega,h2.2⟩
theorem TK{n:bF}(h:dR n=true):cn 10 (cX n):=by
 obtain⟨h1,h2⟩:=yV h;have hs:cn 10 (ea n.kind):=by unfold ea;cases n.kind==1<;>cases n.kind==2<;>cases n.kind==3<;>exact cn.lit (by decide)
 refine((XX h1).df hs).df ?_
 rcases h2 with⟨_,h2⟩|⟨_,h2⟩
 ·rw[h2];exact cn.nil _
 ·exact XP h2
theorem aju{n:bF}(h:dR n=true)(r:B):dK 10 (cL n++r)=some (gh++32::cX n,r):=by
 have:cL n++r=(gh++32::cX n)++10::r:=by unfold cL gh;simp
 rw[this];refine s9 ((cn.lit (by decide)).df fun z hz=>?_)
 rcases bO.1 hz with rfl|hz
 ·decide
 ·exact TK h z hz
theorem J3(r:B):dK 10 (10::r)=some ([],r):=by simp[dK]
theorem ajs{n:bF}{ns:List bF}{r:B}(h:dR n=true):dK 10 ((n::ns).flatMap cL++r)=some (gh++32::cX n,ns.flatMap cL++r):=by
 rw[List.flatMap_cons,List.append_assoc];exact aju h _
theorem zm(s r:B):dK 10 (cS s++r)=some (Lib.itoa (s.length:Int),s++r):=by
 have:cS s++r=Lib.itoa (s.length:Int)++10::(s++r):=by unfold cS;simp
 rw[this];exact s9 (Cv _)
def fD(m:Int)(s:B):Bool:=s.all c7&&!(s==[])&&!iF s&&decide (s.length<=9)&&decide (du s<=m)
theorem zf(s:B)(m:Int)(hs:aA s.length):f115 ((s,(m,())),())=some ((bif fD m s then du s else 0,(fD m s,())),()):=by
 have key:s.length<=9->s7 ((s,(m,((0:Int),((s.length:Int),((0:Int),()))))),())=some (bif allI (fun i x=>c7 x) 0 s then .inr ((m,(du s,())),()) else .inl (((0:Int),(false,())),())):=by
  intro iz;have:=my q5 s (fun i n=>((s,(m,(n,((s.length:Int),((i:Int),()))))),())) (fun i x n=>some (bif c7 x then .inl (eA n x) else .inr (.inl (((0:Int),(false,())),())))) (fun n=>.inr ((m,(n,())),()))
   (fun i n=>0<=n/\n<10^i/\(i<=9)) (0:Int) ⟨by decide,by decide,by decide⟩ (fun i x n hx dG=>?_) (fun n _=>?_)
  ·exact this.trans (by rw[y0];rfl)
  ·have hi:=da hx;have hw:aA i:=by unfold aA at*;omega
   obtain⟨h0,h1,cp⟩:=dG;refine⟨?_,fun aQ an=>?_⟩
   ·simp only[q5,ct hi,ad,zc,cd,hx,Y,b9 hw,pd,n',Nx];cases aa:c7 x with
    |false=>
     unfold c7 at aa;by_cases aF:(48:Int)<=(x.toNat:Int)<;>by_cases bo:(x.toNat:Int)<=57<;>simp[aF,bo] at aa ⊢
    |true=>
     obtain⟨aF,bo⟩:=jf aa;have:=Gd (i:=i) aa (by omega) h0 h1
     simp only[aF,bo,decide_true,bu,bJ,ad,ak,Y,cd,hx,this,b9 hw,Bool.and_true,Option.map_some]
   ·simp only[bE] at an;cases aC:c7 x with
    |false=>rw[aC] at an;cases an
    |true=>
     rw[aC] at an;simp only[ad,Sum.inl.injEq] at an;subst an;have:=Fz aC h0 h1;exact⟨this.1,this.2,by omega⟩
  ·simp only[q5,dL,ak]
 rw[hH] at key;cases s with
 |nil=>rfl
 |cons b r=>
  have hb:aS (b::r) 0=some b:=rfl;have he:((b::r)==([]:B))=false:=rfl;have hl:decide (((b::r).length:Int)>1)=!(r==[]):=by cases r<;>simp;omega
  have iz:decide (((b::r).length:Int)>9)=!decide ((b::r).length<=9):=by by_cases h:(b::r).length<=9<;>simp only[h,decide_true,decide_false,bu,bJ,dY,decide_eq_false_iff_not]<;>omega
  have rz:iF (b::r)=(!(r==[])&&(b.toNat:Int)==48):=by cases r<;>rfl
  simp only[f115,BP,he,hl,iz,bJ,ad,Bool.not_not,hb,Y];have fin:(b::r).length<=9->iF (b::r)=false->((s7 ((b::r,(m,((0:Int),(((b::r).length:Int),((0:Int),()))))),())).bind fun K8=>match K8 with
    |.inl xe=>some ((xe.1.1,(xe.1.2.1,())),())
    |.inr rG=>bif decide (rG.1.2.1>rG.1.1) then some (((0:Int),(false,())),()) else some ((rG.1.2.1,(true,())),()))=
    some ((bif fD m (b::r) then du (b::r) else 0,(fD m (b::r),())),()):=by
   intro iz kn;rw[key iz];unfold fD;rw[he,kn];cases aa:List.all (b::r) c7 with
   |false=>rfl
   |true=>
    simp only[ad,Y,bJ,Bool.true_and,n'];simp only[iz,decide_true,Bool.true_and];cases decide (du (b::r)<=m)<;>rfl
  by_cases aC:(b::r).length<=9
  ·simp only[aC,decide_true,ad];cases hr:(r==[]) with
   |true=>
    simp only[bu,ak,Y];exact fin aC (by rw[rz,hr];rfl)
   |false=>
    simp only[bJ,ad,Y];cases qz:((b.toNat:Int)==48) with
    |true=>
     have:fD m (b::r)=false:=by unfold fD;rw[rz,hr,qz];simp
     rw[this];rfl
    |false=>
     simp only[ak];exact fin aC (by rw[rz,hr,qz];rfl)
  ·have:fD m (b::r)=false:=by
    unfold fD;rw[decide_eq_false aC];simp
   simp only[aC,decide_false,ak,Y,ad,this]
theorem alv{n:Nat}{m:Int}(h:(n:Int)<=m)(iz:n<1000000000):fD m (Lib.decDigits n)=true:=by
 unfold fD;have h1:(Lib.decDigits n==[])=false:=by simpa using Wi n
 have h2:=HP 8 n (by omega)
 rw[Jy,h1,SQ,wm,decide_eq_true h2,decide_eq_true h];rfl
theorem ahR(n:Nat)(h:n<1000000):f74 ((Lib.itoa (n:Int),()),())=some (((n:Int),()),()):=by
 have h1:(Lib.decDigits n==[])=false:=by simpa using Wi n
 have h2:=HP 5 n (by omega)
 have:=HX ((Lib.decDigits n,()),()) (show aA (Lib.decDigits n).length by unfold aA;omega)
 have this:f74 ((Lib.decDigits n,()),())=some ((bif(Lib.decDigits n).all c7&&decide ((Lib.decDigits n).length<=6)&&!(Lib.decDigits n==[])&&!iF (Lib.decDigits n) then du (Lib.decDigits n) else-1,()),()):=this
 rw[ox,this,Jy,decide_eq_true h2,h1,SQ,wm];rfl
def mG{aD:Type}(D:Option aD)(R:aD->Prop):Prop:=∀a,D=some a <-> R a
theorem mG.w9{aD:Type}{D dk:Option aD}{R:aD->Prop}(h:mG D R)(an:mG dk R):D=dk:=by
 cases D with
 |some a=>exact((an a).2 ((h a).1 rfl)).symm
 |none=>
  cases dk with
  |none=>rfl
  |some a=>exact(h a).2 ((an a).1 rfl)
noncomputable abbrev avu:a8:=[(209,LX)]
theorem awv:aT O (aZ af avu):=aY ⟨XG,⟨⟩⟩
abbrev i166:Shape:=⟨[am 0,am 1],[],23⟩
abbrev Y4:Shape:=⟨[am 4,am 5,ar 6],[],23⟩
noncomputable def f166(a:i166.J):Option Y4.J:=
(f209 ((a.1.1,a.1.2.1,()),())).bind fun b=>
 bif(decide (b.1.1>=(0:Int))) then
(bq a.1.1 (0:Int) b.1.1).bind fun c=>
(bq a.1.1 (IntKind.i64.wrap (b.1.1+(a.1.2.1.length:Int))) (a.1.1.length:Int)).bind fun d=>
 some ((c,d,true,()),())
else
 some ((a.1.1,([]:B),false,()),())
noncomputable def aae:aH:=aL af Tryz.f166 i166 Y4 [] f166
theorem asZ:aE O 166 aae:=aM awv Tryz.func166 (by kernel_rfl) ag (fun y=>by kernel_rfl) fun a=>by kernel_rfl
noncomputable abbrev av0:a8:=[(166,aae)]
theorem awH:aT O (aZ af av0):=aY ⟨asZ,⟨⟩⟩
abbrev i114:Shape:=⟨[am 0,am 1],[],13⟩
abbrev ZE:Shape:=⟨[am 4,am 5,ar 6],[],13⟩
noncomputable def f114(a:i114.J):Option ZE.J:=
(f166 ((a.1.1,a.1.2.1,()),())).bind fun b=>
 some ((b.1.1,b.1.2.1,b.1.2.2.1,()),())
noncomputable def xy:aH:=aL af Tryz.f114 i114 ZE [] f114
theorem Du:aE O 114 xy:=aM awH Tryz.func114 (by kernel_rfl) ag (fun y=>by kernel_rfl) fun a=>by kernel_rfl
noncomputable def Xt:aH:=JB
theorem aqX:aE O 250 Xt:=aga (fn:=Tryz.f250) (by kernel_rfl) (by kernel_rfl) (by kernel_rfl) (by kernel_rfl) (by kernel_rfl)
noncomputable abbrev au6:a8:=[(212,DR),(250,Xt)]
theorem aaQ:aT O (aZ af au6):=aY ⟨z212,aqX,⟨⟩⟩
abbrev AQ:Shape:=⟨[am 0,am 1,aj 5],[],34⟩
abbrev Ia:List aR:=[(.ret,⟨[aj 4],[],34⟩)]
noncomputable def an7(y:AQ.J):bP AQ Ia:=
(f212 ((y.1.1,y.1.2.1,()),())).bind fun a=>
 bif(a.1.1==((-1):Int)) then
 some (.inr ((y.1.2.2.1,()),()))
else
(bq y.1.1 (IntKind.i64.wrap (a.1.1+(y.1.2.1.length:Int))) (y.1.1.length:Int)).bind fun b=>
 some (.inl ((b,y.1.2.1,(IntKind.i64.wrap (y.1.2.2.1+(1:Int))),()),()))
noncomputable def T5:AQ.J->Option (aG Ia):=bA an7
theorem am0:aV O (ap (codeOf Tryz.f211) 1 62) (aX AQ Ia T5):=bR aaQ (by kernel_rfl) ag fun y=>by kernel_rfl
abbrev i211:Shape:=⟨[am 0,am 1],[],34⟩
abbrev Yz:Shape:=⟨[aj 4],[],34⟩
noncomputable def f211(a:i211.J):Option Yz.J:=
 bif((a.1.2.1.length:Int)==(0:Int)) then
 none
else
 bif((a.1.2.1.length:Int)==(1:Int)) then
(aS a.1.2.1 (0:Int)).bind fun b=>
(some ()).bind fun c=>
 some ((((Lib.countByte a.1.1 (b.toNat:Int).toNat.toUInt8:Nat):Int),()),())
else
(T5 ((a.1.1,a.1.2.1,(0:Int),()),())).bind fun d=>
 some ((d.1.1,()),())
noncomputable def _Q:aH:=aL af Tryz.f211 i211 Yz [] f211
theorem asG:aE O 211 _Q:=aM aaQ Tryz.func211 (by kernel_rfl) (a7 am0 ag) (fun y=>by kernel_rfl) fun a=>by kernel_rfl
noncomputable abbrev avt:a8:=[(211,_Q),(212,DR)]
theorem Mi:aT O (aZ af avt):=aY ⟨asG,z212,⟨⟩⟩
abbrev TE:Shape:=⟨[am 0,am 1,aj 2,aj 3],[],66⟩
abbrev Ti:List aR:=[(.norm,⟨[am 0,am 1,aj 2,aj 3],[],66⟩)]
noncomputable def BF(y:TE.J):Option (aG Ti):=
 bif(decide (y.1.2.2.2.1<(0:Int))) then
(f211 ((y.1.1,y.1.2.1,()),())).bind fun a=>
 some ((y.1.1,y.1.2.1,y.1.2.2.1,(IntKind.i64.wrap (a.1.1+(1:Int))),()),())
else
 some ((y.1.1,y.1.2.1,y.1.2.2.1,y.1.2.2.2.1,()),())
theorem ani:aV O (ap (codeOf Tryz.f167) 1 30) (aX TE Ti BF):=cm Mi (by kernel_rfl) ag fun y=>by kernel_rfl
abbrev zr:Shape:=⟨[am 0,am 1,aj 2,aj 3,bd 9 3000576,aj 10],[bc 3000576 .str 9 0],66⟩
abbrev F8:List aR:=[(.exit 0,⟨[am 0,bd 9 3000576,aj 10],[bc 3000576 .str 9 0],66⟩)]
noncomputable def zG(y:zr.J):bP zr F8:=
 bif(decide (y.1.2.2.2.2.2.1<y.1.2.2.2.1)) then
(f212 ((y.1.1,y.1.2.1,()),())).bind fun a=>
 bif(decide (a.1.1<(0:Int))) then
 some (.inr ((y.1.1,(),y.1.2.2.2.2.2.1,()),y.2.1,()))
else
(bq y.1.1 (0:Int) (IntKind.i64.wrap (a.1.1+y.1.2.2.1))).bind fun b=>
(bh y.2.1.length y.1.2.2.2.2.2.1).bind fun c=>
((y.2.1[c]?).bind fun q=>some b).bind fun d=>
(bq y.1.1 (IntKind.i64.wrap (a.1.1+(y.1.2.1.length:Int))) (y.1.1.length:Int)).bind fun e=>
 some (.inl ((e,y.1.2.1,y.1.2.2.1,y.1.2.2.2.1,(),(IntKind.i64.wrap (y.1.2.2.2.2.2.1+(1:Int))),()),(y.2.1.set c d),()))
else
 some (.inr ((y.1.1,(),y.1.2.2.2.2.2.1,()),y.2.1,()))
noncomputable def vE:zr.J->Option (aG F8):=bA zG
theorem ajb:aV O (ap (codeOf Tryz.f167) 1 2044) (aX zr F8 vE):=bR Mi (by kernel_rfl) ag fun y=>by kernel_rfl
abbrev i167:Shape:=⟨[am 0,am 1,aj 2,aj 3],[],66⟩
abbrev Y3:Shape:=⟨[aO 8 .str],[],66⟩
noncomputable def f167(a:i167.J):Option Y3.J:=
 bif(a.1.2.2.2.1==(0:Int)) then
 some ((([]:List B),()),())
else
 bif(a.1.2.1==([]:B)) then
 none
else
(BF ((a.1.1,a.1.2.1,a.1.2.2.1,a.1.2.2.2.1,()),())).bind fun b=>
(kk 16 (kG b.1.2.2.2.1 (IntKind.i64.wrap ((b.1.1.length:Int)+(1:Int)))) (kG b.1.2.2.2.1 (IntKind.i64.wrap ((b.1.1.length:Int)+(1:Int)))) ([]:B)).bind fun c=>
(vE ((b.1.1,b.1.2.1,b.1.2.2.1,(IntKind.i64.wrap ((kG b.1.2.2.2.1 (IntKind.i64.wrap ((b.1.1.length:Int)+(1:Int))))-(1:Int))),(),(0:Int),()),c,())).bind fun d=>
(bh d.2.1.length d.1.2.2.1).bind fun e=>
((d.2.1[e]?).bind fun q=>some d.1.1).bind fun f=>
(bq (d.2.1.set e f) (0:Int) (IntKind.i64.wrap (d.1.2.2.1+(1:Int)))).bind fun g=>
 some ((g,()),())
noncomputable def L3:aH:=aL af Tryz.f167 i167 Y3 [] f167
theorem z167:aE O 167 L3:=aM Mi Tryz.func167 (by kernel_rfl) (a7 ani (a7 ajb ag)) (fun y=>by kernel_rfl) fun a=>by kernel_rfl
noncomputable abbrev avZ:a8:=[(167,L3)]
theorem awG:aT O (aZ af avZ):=aY ⟨z167,⟨⟩⟩
abbrev i116:Shape:=⟨[am 0,am 1],[],8⟩
abbrev ZC:Shape:=⟨[aO 4 .str],[],8⟩
noncomputable def f116(a:i116.J):Option ZC.J:=
(f167 ((a.1.1,a.1.2.1,(0:Int),((-1):Int),()),())).bind fun b=>
 some ((b.1.1,()),())
noncomputable def aaH:aH:=aL af Tryz.f116 i116 ZC [] f116
theorem z116:aE O 116 aaH:=aM awG Tryz.func116 (by kernel_rfl) ag (fun y=>by kernel_rfl) fun a=>by kernel_rfl
abbrev i251:Shape:=⟨[am 0,am 1],[],18⟩
abbrev Yf:Shape:=⟨[ar 4],[],18⟩
noncomputable def f251(a:i251.J):Option Yf.J:=
 bif(decide ((a.1.1.length:Int)>=(a.1.2.1.length:Int))) then
(bq a.1.1 (0:Int) (a.1.2.1.length:Int)).bind fun b=>
 some (((b==a.1.2.1),()),())
else
 some ((false,()),())
noncomputable def LR:aH:=aL af Tryz.f251 i251 Yf [] f251
theorem XC:aE O 251 LR:=aM g0 Tryz.func251 (by kernel_rfl) ag (fun y=>by kernel_rfl) fun a=>by kernel_rfl
noncomputable abbrev au4:a8:=[(251,LR)]
theorem awm:aT O (aZ af au4):=aY ⟨XC,⟨⟩⟩
abbrev i213:Shape:=⟨[am 0,am 1],[],15⟩
abbrev Yx:Shape:=⟨[am 4,ar 5],[],15⟩
noncomputable def f213(a:i213.J):Option Yx.J:=
(f251 ((a.1.1,a.1.2.1,()),())).bind fun b=>
 bif(!b.1.1) then
 some ((a.1.1,false,()),())
else
(bq a.1.1 (a.1.2.1.length:Int) (a.1.1.length:Int)).bind fun c=>
 some ((c,true,()),())
noncomputable def _P:aH:=aL af Tryz.f213 i213 Yx [] f213
theorem z213:aE O 213 _P:=aM awm Tryz.func213 (by kernel_rfl) ag (fun y=>by kernel_rfl) fun a=>by kernel_rfl
noncomputable abbrev avs:a8:=[(213,_P)]
theorem awu:aT O (aZ af avs):=aY ⟨z213,⟨⟩⟩
abbrev i168:Shape:=⟨[am 0,am 1],[],11⟩
abbrev Y2:Shape:=⟨[am 4,ar 5],[],11⟩
noncomputable def f168(a:i168.J):Option Y2.J:=
(f213 ((a.1.1,a.1.2.1,()),())).bind fun b=>
 some ((b.1.1,b.1.2.1,()),())
noncomputable def aad:aH:=aL af Tryz.f168 i168 Y2 [] f168
theorem z168:aE O 168 aad:=aM awu Tryz.func168 (by kernel_rfl) ag (fun y=>by kernel_rfl) fun a=>by kernel_rfl
noncomputable abbrev au3:a8:=[(251,LR)]
theorem awl:aT O (aZ af au3):=aY ⟨XC,⟨⟩⟩
abbrev i215:Shape:=⟨[am 0,am 1],[],8⟩
abbrev Yw:Shape:=⟨[ar 4],[],8⟩
noncomputable def f215(a:i215.J):Option Yw.J:=
(f251 ((a.1.1,a.1.2.1,()),())).bind fun b=>
 some ((b.1.1,()),())
noncomputable def _O:aH:=aL af Tryz.f215 i215 Yw [] f215
theorem asF:aE O 215 _O:=aM awl Tryz.func215 (by kernel_rfl) ag (fun y=>by kernel_rfl) fun a=>by kernel_rfl
noncomputable abbrev au2:a8:=[(167,L3)]
theorem awk:aT O (aZ af au2):=aY ⟨z167,⟨⟩⟩
abbrev i216:Shape:=⟨[am 0,am 1,aj 2],[],11⟩
abbrev Yv:Shape:=⟨[aO 6 .str],[],11⟩
noncomputable def f216(a:i216.J):Option Yv.J:=
(f167 ((a.1.1,a.1.2.1,(0:Int),a.1.2.2.1,()),())).bind fun b=>
 some ((b.1.1,()),())
noncomputable def _N:aH:=aL af Tryz.f216 i216 Yv [] f216
theorem asE:aE O 216 _N:=aM awk Tryz.func216 (by kernel_rfl) ag (fun y=>by kernel_rfl) fun a=>by kernel_rfl
def hQ(c:UInt8)(s:B):B:=match dK c s with|some (x,_)=>x|none=>s
def hP(c:UInt8)(s:B):B:=match dK c s with|some (_,y)=>y|none=>[]
theorem RC(c:UInt8)(r:B):f209 ((r,([c],())),())=some ((Lib.indexByte r c,()),()):=by
 have h0:aS ([c]:B) (0:Int)=some c:=rfl;have h1:((([c]:B).length:Int)==0)=false:=rfl;have h2:((([c]:B).length:Int)==1)=true:=rfl;have h3:((c.toNat:Int)).toNat.toUInt8=c:=by simp
 simp only[f209,Bx,f244,h0,h1,h2,h3,bJ,ad,ak,Y,Option.bind];by_cases h:(([c]:B)==r)=true
 ·have:r=[c]:=(by simpa using h:[c]=r).symm
  subst this;simp[Lib.indexByte]<;>rfl
 ·simp[h]<;>rfl
theorem nF(c:UInt8)(s:B)(hs:aA s.length):f114 ((s,([c],())),())=some ((hQ c s,(hP c s,((dK c s).isSome,()))),()):=by
 have hi:=RC c s;rw[Ud] at hi;unfold hQ hP;simp only[f114,f166,hi,Y];cases h:dK c s with
 |none=>rfl
 |some q=>
  obtain⟨x,y⟩:=q;obtain⟨h1,_⟩:=jD h;have hl:s.length=x.length+1+y.length:=by rw[h1];simp;omega
  have aa:decide (((x.length:Nat):Int)>=0)=true:=decide_eq_true (by omega)
  have hw:IntKind.i64.wrap (((x.length:Nat):Int)+((([c]:B).length:Nat):Int))=((x.length+1:Nat):Int):=by
   rw[c' (by simp;omega) (by unfold aA at hs;simp;omega)];simp
  have e1:bq s 0 ((x.length:Nat):Int)=some x:=by rw[gw (by omega),h1];simp
  have e2:bq s ((x.length+1:Nat):Int) ((s.length:Nat):Int)=some y:=by
   rw[fO (by omega)]
   congr 1
   rw[h1,show x++c::y=(x++[c])++y by simp,List.drop_left' (by simp)]
  simp only[aa,ad,e1,hw,e2,Y,Option.isSome_some]
def ek(p s:B):Option B:=bif decide (p.length<=s.length)&&s.take p.length==p then some (s.drop p.length) else none
theorem Pd(s p:B):f251 ((s,(p,())),())=some (((ek p s).isSome,()),()):=by
 have aa:decide (((s.length:Nat):Int)>=((p.length:Nat):Int))=decide (p.length<=s.length):=by congr 1;apply propext;omega
 unfold ek;simp only[f251,aa];cases h:decide (p.length<=s.length) with
 |false=>rfl
 |true=>
  rw[ad,gw (of_decide_eq_true h)];simp only[Y,Bool.true_and];cases (s.take p.length==p)<;>rfl
theorem afH(s p:B):f215 ((s,(p,())),())=some (((ek p s).isSome,()),()):=by
 have:=Pd s p;simp only[f215,this,Y]
theorem Pe(s p:B):f168 ((s,(p,())),())=some (((ek p s).getD s,((ek p s).isSome,())),()):=by
 have h0:=Pd s p;simp only[f168,f213,h0,Y];unfold ek;cases h:decide (p.length<=s.length)&&s.take p.length==p with
 |false=>rfl
 |true=>
  simp only[bC,dY] at h;have e:bq s ((p.length:Nat):Int) ((s.length:Nat):Int)=some (s.drop p.length):=fO h.1;simp only[ad,Option.isSome_some,bu,ak,e,Y,Option.getD_some]
theorem vJ(p r:B):ek p (p++r)=some r:=by
 unfold ek;rw[decide_eq_true (by simp)]
 simp
def splitN(c:UInt8):Nat->B->List B
 |0,s=>[s]
 |k+1,s=>match dK c s with
  |some (x,y)=>x::splitN c k y
  |none=>[s]
theorem y3(c:UInt8):∀(k:Nat) (s:B),(bN c s).length<=k+1->splitN c k s=bN c s:=by
 intro k;induction k with
 |zero=>
  intro s h;rw[PV] at h ⊢;cases hc:dK c s with
  |none=>rfl
  |some q=>
   obtain⟨x,y⟩:=q;rw[hc] at h;have:=pz c y;cases hy:bN c y with
   |nil=>exact absurd hy this
   |cons z zs=>simp[hy] at h
 |succ k ih=>
  intro s h;rw[PV] at h ⊢;unfold splitN;cases hc:dK c s with
  |none=>rfl
  |some q=>
   obtain⟨x,y⟩:=q;rw[hc] at h;simp only[cW] at h;show x::splitN c k y=x::bN c y;rw[ih y (by omega)]
theorem PS(c:UInt8)(k:Nat)(s:B):1<=(splitN c k s).length:=by
 cases k with
 |zero=>simp[splitN]
 |succ k=>unfold splitN;split<;>simp
theorem y2(c:UInt8):∀(k:Nat) (s:B),s.length<=k->splitN c k s=bN c s:=fun k s h=>y3 c k s (by have:=ot c s;omega)
theorem Ha{aD:Type}:∀(a:List aD) (i:Nat) (x:aD),i<a.length->(a.set i x).take (i+1)=a.take i++[x]:=by
 intro a;induction a with
 |nil=>intro i x h;simp at h
 |cons b a ih=>
  intro i x h;cases i with
  |zero=>rfl
  |succ i=>
   have:=ih i x (by simpa using h)
   simp only[List.set_cons_succ,List.take_succ_cons,List.cons_append,this]
theorem Uh(c:UInt8)(N:Nat)(e4:aA N):∀(m i:Nat) (s:B) (a:List B),i+m+1=N->a.length=N->aA s.length->s.length+i<=1099511627776->
  ∃(aQ:B) (j:Nat) (c_:List B),vE ((s,([c],((0:Int),(((N-1:Nat):Int),((),((i:Int),())))))),(a,()))=some ((aQ,((),((j:Int),()))),(c_,()))/\j<N/\c_.length=N/\(c_.set j aQ).take (j+1)=a.take i++splitN c m s:=by
 intro m;induction m with
 |zero=>
  intro i s a hi ha hs _;refine⟨s,i,a,cC ?_,by omega,ha,?_⟩
  ·have:decide ((i:Int)<((N-1:Nat):Int))=false:=decide_eq_false (by omega)
   simp only[zG,this,ak]
  ·rw[Ha a i s (by omega)];rfl
 |succ m ih=>
  intro i s a hi ha hs hb;have hlt:decide ((i:Int)<((N-1:Nat):Int))=true:=decide_eq_true (by omega)
  have hx:=RC c s;have hx:f212 ((s,([c],())),())=some ((Lib.indexByte s c,()),()):=by simp only[f212,hx,Y]
  rw[Ud] at hx;cases hc:dK c s with
  |none=>
   rw[hc] at hx;refine⟨s,i,a,cC ?_,by omega,ha,?_⟩
   ·have:decide ((-1:Int)<0)=true:=rfl;simp only[zG,hlt,ad,hx,Y,this]
   ·rw[Ha a i s (by omega)];simp only[splitN,hc]
  |some q=>
   obtain⟨x,y⟩:=q;rw[hc] at hx;obtain⟨h1,_⟩:=jD hc;have hl:s.length=x.length+1+y.length:=by rw[h1];simp;omega
   obtain⟨aQ,j,c_,g1,g2,g3,g4⟩:=ih (i+1) y (a.set i x) (by omega) (by simp[ha]) (by unfold aA at hs ⊢;omega) (by omega)
   refine⟨aQ,j,c_,?_,g2,g3,?_⟩
   ·refine(d' ?_).trans g1;have aa:decide (((x.length:Nat):Int)<0)=false:=decide_eq_false (by omega)
    have U:IntKind.i64.wrap (((x.length:Nat):Int)+0)=((x.length:Nat):Int):=by unfold aA at hs;rw[c' (by omega) (by omega)];omega
    have a':IntKind.i64.wrap (((x.length:Nat):Int)+((([c]:B).length:Nat):Int))=((x.length+1:Nat):Int):=by
     unfold aA at hs;rw[c' (by simp;omega) (by simp;omega)];simp
    have e1:bq s 0 ((x.length:Nat):Int)=some x:=by rw[gw (by omega),h1];simp
    have e2:bq s ((x.length+1:Nat):Int) ((s.length:Nat):Int)=some y:=by
     rw[fO (by omega)]
     congr 1
     rw[h1,show x++c::y=(x++[c])++y by simp,List.drop_left' (by simp)]
    have bz:bh a.length (i:Int)=some i:=fQ (by omega)
    have dn:a[i]? =some (a[i]'(by omega)):=dZ (by omega)
    simp only[zG,hlt,ad,hx,Y,aa,ak,U,e1,bz,dn,a',e2,b9 (i:=i) (by unfold aA;omega)]
   ·rw[g4,Ha a i x (by omega)]
    simp only[splitN,hc,List.append_assoc,List.cons_append,List.nil_append]
theorem agY(c:UInt8):∀s:B,(bN c s).length=Lib.countByte s c+1:=by
 intro s;induction s with
 |nil=>rfl
 |cons b r ih=>
  unfold bN Lib.countByte;rw[List.count_cons];unfold Lib.countByte at ih;cases hb:b==c with
  |true=>simp[ih]
  |false=>
   simp only[ak];have hne:=pz c r;cases hy:bN c r with
   |nil=>exact absurd hy hne
   |cons y bm=>rw[hy] at ih;simpa using ih
theorem ahe(c:UInt8)(s:B)(n N:Nat)(hs:s.length<=1000000000)(h1:1<=n)(e4:min n (s.length+1)=N):
  f167 ((s,([c],((0:Int),((n:Int),())))),())=some ((splitN c (N-1) s,()),()):=by
 have r6:((n:Int)==0)=false:=by rw[beq_eq_false_iff_ne];omega
 have hc0:(([c]:B)==[])=false:=rfl;have hneg:decide ((n:Int)<0)=false:=decide_eq_false (by omega)
 have hw:IntKind.i64.wrap (((s.length:Nat):Int)+1)=((s.length+1:Nat):Int):=by rw[c' (by omega) (by omega)];omega
 have hm:kG (n:Int) ((s.length+1:Nat):Int)=(N:Int):=by unfold kG;split<;>omega
 have M6:kk 16 (N:Int) (N:Int) ([]:B)=some (List.replicate N []):=VI (by decide) (by unfold aA;omega)
 have hw1:IntKind.i64.wrap ((N:Int)-1)=((N-1:Nat):Int):=by rw[c' (by omega) (by omega)];omega
 obtain⟨aQ,j,c_,g1,g2,g3,g4⟩:=Uh c N (by unfold aA;omega) (N-1) 0 s (List.replicate N []) (by omega) (by simp) (by unfold aA;omega) (by omega)
 have g1:vE ((s,([c],((0:Int),(((N-1:Nat):Int),((),((0:Int),())))))),(List.replicate N ([]:B),()))=_:=g1;have e1:bh c_.length (j:Int)=some j:=fQ (by omega)
 have e2:c_[j]? =some (c_[j]'(by omega)):=dZ (by omega)
 have bz:bq (c_.set j aQ) 0 ((j+1:Nat):Int)=some (splitN c (N-1) s):=by
  rw[gw (by simp;omega),g4];simp
 simp only[f167,r6,hc0,ak,BF,hneg,Y,hw,hm,M6,hw1,g1,e1,e2,b9 (i:=j) (by unfold aA;omega),bz]
theorem Qr(s:B)(hs:s.length<=1000000000):f216 ((s,([32],((5:Int),()))),())=some ((splitN 32 4 s,()),()):=by
 have h:=ahe 32 s 5 _ hs (by decide) rfl
 have h:f167 ((s,(([32]:B),((0:Int),((5:Int),())))),())=_:=h;simp only[f216,h,Y];congr 3
 by_cases aF:4<=s.length
 ·rw[show min 5 (s.length+1)-1=4 by omega]
 ·rw[y2 32 _ s (by omega),y2 32 4 s (by omega)]
theorem Qs(s:B)(hs:s.length<=1000000000):f116 ((s,([32],())),())=some ((bN 32 s,()),()):=by
 have hcs:=agY 32 s;have hl:=ot 32 s;have r6:((-1:Int)==0)=false:=rfl;have hc0:(([32]:B)==[])=false:=rfl;have hneg:decide ((-1:Int)<0)=true:=rfl;have auj:f211 ((s,(([32]:B),())),())=some (((Lib.countByte s 32:Int),()),()):=rfl;have Es:IntKind.i64.wrap ((Lib.countByte s 32:Int)+1)=(((bN 32 s).length:Nat):Int):=by rw[c' (by omega) (by omega)];omega
 have hw:IntKind.i64.wrap (((s.length:Nat):Int)+1)=((s.length+1:Nat):Int):=by rw[c' (by omega) (by omega)];omega
 generalize e4:(bN 32 s).length=N at Es hcs hl;have hm:kG (N:Int) ((s.length+1:Nat):Int)=(N:Int):=by unfold kG;split<;>omega
 have M6:kk 16 (N:Int) (N:Int) ([]:B)=some (List.replicate N []):=VI (by decide) (by unfold aA;omega)
 have hw1:IntKind.i64.wrap ((N:Int)-1)=((N-1:Nat):Int):=by rw[c' (by omega) (by omega)];omega
 obtain⟨aQ,j,c_,g1,g2,g3,g4⟩:=Uh 32 N (by unfold aA;omega) (N-1) 0 s (List.replicate N []) (by omega) (by simp) (by unfold aA;omega) (by omega)
 have g1:vE ((s,(([32]:B),((0:Int),(((N-1:Nat):Int),((),((0:Int),())))))),(List.replicate N ([]:B),()))=_:=g1;have e1:bh c_.length (j:Int)=some j:=fQ (by omega)
 have e2:c_[j]? =some (c_[j]'(by omega)):=dZ (by omega)
 have bz:bq (c_.set j aQ) 0 ((j+1:Nat):Int)=some (bN 32 s):=by
  rw[gw (by simp;omega),g4,y3 32 (N-1) s (by omega)];simp
 simp only[f116,f167,r6,hc0,ak,BF,hneg,ad,auj,Y,Es,hw,hm,M6,hw1,g1,e1,e2,b9 (i:=j) (by unfold aA;omega),bz]
end Go.Proofs
namespace Go.Proofs
open Go.Shelf Go.RowKit Go.Lib
variable {P:Program}{ρ:Ren}
abbrev qj(s:ByteArray):Prop:=∀(j:Nat) b,s.data.toList[j]? =some b->b.toNat<128
theorem al2{r:Int}(h0:128<=r):2<=(Utf8.encode r).size/\∀j (h:j<(Utf8.encode r).size),0<j->128<=((Utf8.encode r)[j]'h).toNat:=by
 unfold Utf8.encode;generalize hc:(if Utf8.valid r then r.toNat else Utf8.runeError)=c
 have hc1:128<=c:=by
  rw[<-hc];split
  ·omega
  ·decide
 simp only[];have k:∀x:Nat,128<=128+x%64/\128+x%64<256:=fun x=>by omega
 repeat' split
 all_goals first|omega|skip
 ·refine⟨by show 2<=2;decide,fun j h hj=>?_⟩
  have hj2:j<2:=h;have:j=1:=by omega
  subst this;show 128<=(UInt8.ofNat (128+c%64)).toNat;rw[UInt8.toNat_ofNat'];have:=k c;omega
 ·refine⟨by show 2<=3;decide,fun j h hj=>?_⟩
  have hj2:j<3:=h;have:j=1\/j=2:=by omega
  rcases this with rfl|rfl
  ·show 128<=(UInt8.ofNat (128+c/64%64)).toNat;rw[UInt8.toNat_ofNat'];have:=k (c/64);omega
  ·show 128<=(UInt8.ofNat (128+c%64)).toNat;rw[UInt8.toNat_ofNat'];have:=k c;omega
 ·refine⟨by show 2<=4;decide,fun j h hj=>?_⟩
  have hj2:j<4:=h;have:j=1\/j=2\/j=3:=by omega
  rcases this with rfl|rfl|rfl
  ·show 128<=(UInt8.ofNat (128+c/4096%64)).toNat;rw[UInt8.toNat_ofNat'];have:=k (c/4096);omega
  ·show 128<=(UInt8.ofNat (128+c/64%64)).toNat;rw[UInt8.toNat_ofNat'];have:=k (c/64);omega
  ·show 128<=(UInt8.ofNat (128+c%64)).toNat;rw[UInt8.toNat_ofNat'];have:=k c;omega
theorem afc{l:List UInt8}{b:UInt8}(h:∀x,x∈l->x.toNat<128)(hb:128<=b.toNat):Lib.indexByte l b=-1:=by
 induction l with
 |nil=>rfl
 |cons x r ih=>
  have h1:=h x List.mem_cons_self;have h2:=ih fun y hy=>h y (List.mem_cons_of_mem _ hy)
  have h3:(x==b)=false:=by
   rw[beq_eq_false_iff_ne];rintro rfl;omega
  unfold Lib.indexByte;rw[h2,h3];rfl
set_option maxHeartbeats 4000000 in
set_option maxRecDepth 1000000 in
theorem Any.afo(L:Lays.n152 P ρ)(s:ByteArray)(w:World)(ha:qj s):
  Calls P (ρ.f 152) #[.string s,.int .i32 65533] w fun e w'=>e=.returned (.int .i64 (-1))/\∃pos,w'=w.iter s pos:=by
 have HA:Aside (qj s):=ha;clear ha;have t3:=L.t3;have a3:=L.a3;have z3:=L.z3;have v3:=L.v3;have t4:=L.t4;have a4:=L.a4;have z4:=L.z4;have v4:=L.v4;have t5:=L.t5;have a5:=L.a5;have z5:=L.z5;have v5:=L.v5;have t9:=L.t9;have a9:=L.a9;have z9:=L.z9;have v9:=L.v9;have t21:=L.t21;have a21:=L.a21;have z21:=L.z21;have v21:=L.v21;go_enter L.f152,Body.n152_ntmps ρ
 go_wp2
 go_loopg [5,6] s.size (fun g _ _ wx=>∃i:Nat,i+g=s.size/\wx=w.iter s i)
 case atStart=>exact⟨0,by omega,rfl⟩
 case round=>
  obtain⟨i,hig,rfl⟩:=hrel;cases gk with
  |zero=>
   obtain rfl:i=s.size:=by omega
   have hnx:=run_next_end (P:=P) w s s.size
   go_wp2
   go_ret
   exact⟨rfl,_,rfl⟩
  |succ g=>
   have hi:i<s.size:=by omega
   obtain⟨x,hx⟩:∃x:UInt8,s[i]'hi=x:=⟨_,rfl⟩;have hxl:s.data.toList[i]? =some x:=by rw[<-hx];exact Lib.data_getElem? s i hi
   have hx128:x.toNat<128:=HA.out i x hxl;have hnx:=fun ty=>run_next_ascii (P:=P) w s i ty hi (by rw[hx];exact hx128)
   rw[hx] at hnx;clear hxl hx;have hne:((x.toNat:Int)==65533)=false:=by rw[beq_eq_false_iff_ne];omega
   go_wp2
   go_roundg g
   case measure=>omega
   case rel=>exact⟨i+1,by omega,rfl⟩
set_option maxHeartbeats 8000000 in
set_option maxRecDepth 1000000 in
theorem Any.afb(L:Lays.n152 P ρ)(s:ByteArray)(r:Int)(w:World)(h0:128<=r)(h1:r<=2147483647)(hne:r≠65533)(hs:s.size<=1000000)(ha:qj s):
  Calls P (ρ.f 152) #[.string s,.int .i32 r] w fun e w'=>e=.returned (.int .i64 (-1))/\Below w.heap.size w w':=by
 have HA:Aside (qj s):=ha;clear ha;have t3:=L.t3;have a3:=L.a3;have z3:=L.z3;have v3:=L.v3;have t4:=L.t4;have a4:=L.a4;have z4:=L.z4;have v4:=L.v4;have t5:=L.t5;have a5:=L.a5;have z5:=L.z5;have v5:=L.v5;have t9:=L.t9;have a9:=L.a9;have z9:=L.z9;have v9:=L.v9;have t21:=L.t21;have a21:=L.a21;have z21:=L.z21;have v21:=L.v21;have e119:∀args w,(callFunc (ρ.f 119) args).run P w=.ok (.enter (ρ.f 119) args) w:=enters_of L.f119 (by kernel_rfl) rfl
 have e137:∀args w,(callFunc (ρ.f 137) args).run P w=.ok (.enter (ρ.f 137) args) w:=enters_of L.f137 (by kernel_rfl) rfl
 have b1:¬(r<128):=by omega
 have b2:(0:Int)<=r:=by omega
 have b3:(r==65533)=false:=by rw[beq_eq_false_iff_ne];exact hne
 obtain⟨hE,hB⟩:=al2 h0;cases hv:Lib.validRune r with
 |false=>
  go_enter L.f152,Body.n152_ntmps ρ
  go_wp2_with (go_at_fn (ρ.f 119);refine(Any.utf8_ValidRune {L with} _ _).mono ?_;rintro e w' ⟨rfl,hw⟩;rw[hw,hv])
  go_ret
  exact⟨rfl,Below.refl _ _⟩
 |true=>
  have mixed:=L.mixed;have s21:(P.underlying (ρ.t 21)).isSome=true:=by rw[L.t21];rfl
  have hcv:=fun w=>run_convert_int_string (P:=P) w (ρ.t 21) (ρ.t 9) .i32 r s21 L.t9
  have hRs:(Utf8.encode r).size<=4:=encode_size_le r;generalize hR:Utf8.encode r=R at hE hB hcv hRs;clear hR;obtain⟨n,hn⟩:∃n:Nat,R.size=n+1:=⟨R.size-1,by omega⟩
  have hidx:(R.size:Int)-1=(n:Int):=by omega
  go_enter L.f152,Body.n152_ntmps ρ
  go_wp2_with (go_at_fn (ρ.f 119);refine(Any.utf8_ValidRune {L with} _ _).mono ?_;rintro e w' ⟨rfl,hw⟩;rw[hw,hv])
  go_step3
  go_wp2
  refine wp_loop_rounds 1 ?_
  rw[rounds_succ]
  go_wp2
  ·have hlt:(n:Int)<(s.size:Int):=by omega
   have hns:n<s.size:=by omega
   have hnR:n<R.size:=by omega
   have hx:=HA.out n _ (Lib.data_getElem? s n hns);have hy:=hB n hnR (by omega)
   obtain⟨x,hxe⟩:∃x:UInt8,s[n]'hns=x:=⟨_,rfl⟩;obtain⟨y,hye⟩:∃y:UInt8,R[n]'hnR=y:=⟨_,rfl⟩;rw[hxe] at hx;rw[hye] at hy;have g1:=fun w=>run_index_string (P:=P) w (ρ.t 9) s .i64 (n:Int) L.t9
   have g2:=fun w=>run_index_string (P:=P) w (ρ.t 9) R .i64 (n:Int) L.t9
   simp only[show(0:Int)<=(n:Int)/\(n:Int)<(s.size:Int) from⟨by omega,hlt⟩,dif_pos,Int.toNat_natCast,hxe] at g1
   simp only[show(0:Int)<=(n:Int)/\(n:Int)<(R.size:Int) from⟨by omega,by omega⟩,dif_pos,Int.toNat_natCast,hye] at g2
   go_step3
   go_wp2
   go_region_o
   have hxy:((x.toNat:Int)==(y.toNat:Int))=false:=by rw[beq_eq_false_iff_ne];omega
   have hxy':¬x.toNat=y.toNat:=by omega
   go_wp2
   have hsm:indexByte (List.take (s.size-(n+1)) (List.drop (n+1) s.data.toList)) y=-1:=by
    refine afc (fun z hz=>?_) hy
    obtain⟨k,hk⟩:=List.getElem?_of_mem (List.mem_of_mem_drop (List.mem_of_mem_take hz));exact HA.out k z hk
   have hb1:(n:Int)+1<=(s.size:Int):=by omega
   have hb0:(0:Int)<=(n:Int)+1:=by omega
   have hb2:¬((s.size:Int)<(n:Int)+1):=by omega
   have hbn:n+1<=s.size:=by omega
   have hsl1:∀w,(Instr.slice (ρ.t 9) (.string s) (some (.int .i64 ((n:Int)+1))) none none).run P w=.ok (.string (s.extract (n+1) s.size)) w:=fun w=>by
    rw[run_slice_string_from_if w (ρ.t 9) s .i64 _ L.t9,if_pos ⟨by omega,by omega⟩]
    rfl
   have hw1:IntKind.i64.wrap ((n:Int)+1)=(n:Int)+1:=by rw[IntKind.wrap_i64];omega
   have hsl2:∀w,(Instr.slice (ρ.t 9) (.string s) (some (.int .i64 (IntKind.i64.wrap ((n:Int)+1)))) none none).run P w=.ok (.string (s.extract (n+1) s.size)) w:=fun w=>by rw[hw1];exact hsl1 w
   go_region_with_o (go_at_fn (ρ.f 137);refine(Any.strings_IndexByte {L with} _ _ _).mono ?_;rintro e w' ⟨rfl,hw⟩;rw[hw])
   go_wp2
   rw[Exit.noGoto_ret];simp only[Exit.inBlock,Exit.then]
   rw[Exit.noGoto_ret];simp only[Exit.inBlock,Exit.then]
   go_ret
   exact⟨rfl,(Below.refl _ _).drew.drew⟩
  ·rw[Exit.noGoto_ret];go_ret
   exact⟨rfl,Below.refl _ _⟩
theorem agX(s:ByteArray)(pos:Nat)(h:pos<s.size)(ha:128<=(s[pos]'h).toNat):∀j,j<(Utf8.decode s pos).2->pos+j<s.size/\∀b,s.data.toList[pos+j]? =some b->128<=b.toNat:=by
 have g:∀k (hk:pos+k<s.size) b,s.data.toList[pos+k]? =some b->s.get! (pos+k)=b:=fun k hk b hb=>by
  have e:=Lib.data_getElem? s (pos+k) hk;rw[hb] at e;have:=get_at s (pos+k) hk;rw[Nat.add_zero] at this;rw[this];exact(Option.some.inj e).symm
 have z:∀b,s.data.toList[pos+0]? =some b->128<=b.toNat:=fun b hb=>by
  have e:=Lib.data_getElem? s pos h;rw[Nat.add_zero,e] at hb;rw[<-Option.some.inj hb];exact ha
 have c:∀k,(decide (pos+k<s.size)&&(s.get! (pos+k)).toNat/64==2)=true->pos+k<s.size/\∀b,s.data.toList[pos+k]? =some b->128<=b.toNat:=fun k hk=>by
  simp only[Bool.and_eq_true,decide_eq_true_eq,beq_iff_eq] at hk;refine⟨hk.1,fun b hb=>?_⟩
  have:=g k hk.1 b hb;rw[this] at hk;omega
 have one:∀j,j<1->pos+j<s.size/\∀b,s.data.toList[pos+j]? =some b->128<=b.toNat:=fun j hj=>by
  obtain rfl:j=0:=by omega
  exact⟨h,z⟩
 have hn:¬(s[pos]'h).toNat<128:=by omega
 simp only[Utf8.decode,get_at s pos h,hn,if_false];split
 ·rename_i h2;simp only[Bool.and_eq_true] at h2;have c1:=c 1 (by simpa using h2.2)
  split
  ·intro j hj;have:j=0\/j=1:=by simp only at hj;omega
   rcases this with rfl|rfl
   ·exact⟨h,z⟩
   ·exact c1
  ·exact one
 ·split
  ·rename_i h2;simp only[Bool.and_eq_true] at h2;have c1:=c 1 (by simpa using h2.1.2)
   have c2:=c 2 (by simpa using h2.2)
   split
   ·intro j hj;have:j=0\/j=1\/j=2:=by simp only at hj;omega
    rcases this with rfl|rfl|rfl
    ·exact⟨h,z⟩
    ·exact c1
    ·exact c2
   ·exact one
  ·split
   ·rename_i h2;simp only[Bool.and_eq_true] at h2;have c1:=c 1 (by simpa using h2.1.1.2)
    have c2:=c 2 (by simpa using h2.1.2)
    have c3:=c 3 (by simpa using h2.2)
    split
    ·intro j hj;have:j=0\/j=1\/j=2\/j=3:=by simp only at hj;omega
     rcases this with rfl|rfl|rfl|rfl
     ·exact⟨h,z⟩
     ·exact c1
     ·exact c2
     ·exact c3
    ·exact one
   ·exact one
theorem Any.af1(L:Lays.n152 P ρ)(s:ByteArray)(r:Int)(w:World)(h0:128<=r)(h1:r<=2147483647)(hs:s.size<=1000000)(ha:qj s):
  Calls P (ρ.f 152) #[.string s,.int .i32 r] w fun e w'=>e=.returned (.int .i64 (-1))/\Below w.heap.size w w':=by
 by_cases hne:r=65533
 ·subst hne;exact(Any.afo L s w ha).mono fun e w' ⟨h,pos,h2⟩=>⟨h,h2▸(Below.refl _ _).alloc (Nat.le_refl _) _⟩
 ·exact Any.afb L s r w h0 h1 hne hs ha
set_option maxHeartbeats 8000000 in
set_option maxRecDepth 1000000 in
theorem Any.ae2(L:Lays.n153 P ρ)(s chars:ByteArray)(w:World)(h2:2<=chars.size)(h8:s.size<=8)(hcs:chars.size<=1000000)(hac:qj chars):
  Calls P (ρ.f 153) #[.string s,.string chars] w fun e w'=>e=.returned (.int .i64 (Lib.indexAny s.data.toList chars.data.toList))/\Below w.heap.size w w':=by
 have HA:Aside (qj chars):=hac;clear hac;have hemp:chars.toList.isEmpty=false:=by
  rw[Lib.toList_data];cases h:chars.data.toList with
  |nil=>have:=Lib.size_eq chars;rw[h,List.length_nil] at this;omega
  |cons _ _=>rfl
 have hn1:((chars.size:Int)==1)=false:=beq_eq_false_iff_ne.2 (by omega)
 have h8z:decide ((8:Int)<(s.size:Int))=false:=decide_eq_false (by omega)
 have t3:=L.t3;have a3:=L.a3;have z3:=L.z3;have v3:=L.v3;have t4:=L.t4;have a4:=L.a4;have z4:=L.z4;have v4:=L.v4;have t5:=L.t5;have a5:=L.a5;have z5:=L.z5;have v5:=L.v5;have t9:=L.t9;have a9:=L.a9;have z9:=L.z9;have v9:=L.v9;have t21:=L.t21;have a21:=L.a21;have z21:=L.z21;have v21:=L.v21;have e152:∀args w,(callFunc (ρ.f 152) args).run P w=.ok (.enter (ρ.f 152) args) w:=enters_of L.f152 (by kernel_rfl) rfl
 have e226:∀args w,(callFunc (ρ.f 226) args).run P w=.ok (.enter (ρ.f 226) args) w:=enters_of L.f226 (by kernel_rfl) rfl
 go_enter L.f153,Body.n153_ntmps ρ
 go_wp2_with (go_at_fn (ρ.f 226);refine(Any.strings_shouldUseASCIISet {L with} _ _).mono ?_;rintro e w' ⟨rfl,hw⟩;rw[hw,h8z])
 go_loopg [9,10] s.size (fun g _ _ wx=>∃i:Nat,i<=s.size/\s.size-i<=g/\wx.heap[w.heap.size]? =some (.stringIter s i)/\Aside (Below w.heap.size w wx)/\Aside (Lib.NoAny s.data.toList chars.data.toList i))
 case atStart=>exact⟨0,by omega,by omega,World.iter_heap _ _ _,(Below.refl _ _).alloc (Nat.le_refl _) _,Lib.NoAny.zero _ _⟩
 case round=>
  obtain⟨i,hi,hg,hk,qK,HN⟩:=hrel;by_cases hlt:i<s.size
  ·obtain⟨x,hx⟩:∃x:UInt8,s[i]'hlt=x:=⟨_,rfl⟩;have hxl:s.data.toList[i]? =some x:=by rw[<-hx];exact Lib.data_getElem? s i hlt
   have Hx:Aside (s.data.toList[i]? =some x):=hxl;have hkl:=(Array.getElem?_eq_some_iff.1 hk).1;by_cases hx128:x.toNat<128
   ·have hnx:=fun ty=>run_next_ascii_at (P:=P) _ w.heap.size s i ty hk hlt (by rw[hx];exact hx128)
    rw[hx] at hnx;have hio:=iterAt_heap _ w.heap.size s i (i+1) hk;have hbo:Aside (Below w.heap.size w _):=below_iterAt qK.out (Nat.le_refl _) s (i+1);clear hxl hx;have hcon:=Lib.contains_iff_indexByte chars.data.toList x;have hback:((x.toNat:Int)).toNat.toUInt8=x:=by simp
    cases hin:chars.data.toList.contains x
    ·rw[hin] at hcon;have hlt2:¬((0:Int)<=Lib.indexByte chars.data.toList x):=of_decide_eq_false hcon.symm;clear hcon
     go_wp2_with (go_at_fn (ρ.f 152);refine(Any.strings_IndexRune_ascii {L with} _ _ _ (by omega) (by omega)).mono ?_;rintro e w' ⟨rfl,hw⟩;rw[hw,hback])
     go_roundg (s.size-(i+1))
     case measure=>omega
     case rel=>exact⟨i+1,by omega,by omega,hio,hbo,HN.out.succ Hx.out hin⟩
    ·rw[hin] at hcon;have hge:(0:Int)<=Lib.indexByte chars.data.toList x:=of_decide_eq_true hcon.symm;clear hcon
     go_wp2_with (go_at_fn (ρ.f 152);refine(Any.strings_IndexRune_ascii {L with} _ _ _ (by omega) (by omega)).mono ?_;rintro e w' ⟨rfl,hw⟩;rw[hw,hback])
     go_ret
     exact⟨by rw[Lib.indexAny_hit HN.out Hx.out hin];rfl,hbo.out⟩
   ·have hhi:128<=(s[i]'hlt).toNat:=by rw[hx];omega
    have hnx:=fun ty=>run_next_any_at (P:=P) _ w.heap.size s i ty hk hlt
    have hd1:=decode_high s i hlt hhi;have hd2:=decode_le s i;have hsk:Aside (∀j,j<(Utf8.decode s i).2->i+j<s.size/\∀b,s.data.toList[i+j]? =some b->128<=b.toNat):=agX s i hlt hhi;generalize(Utf8.decode s i).1=c at hnx hd1 hd2;generalize(Utf8.decode s i).2=d at hnx hd1 hsk;have hle:i+d<=s.size:=by
     have:=(hsk.out (d-1) (by omega)).1
     omega
    have hio:=iterAt_heap _ w.heap.size s i (i+d) hk;have hbo:Aside (Below w.heap.size w _):=below_iterAt qK.out (Nat.le_refl _) s (i+d);have hno:Aside (Lib.NoAny s.data.toList chars.data.toList (i+d)):=fun j b hj hb=>by
     by_cases hji:j<i
     ·exact HN.out j b hji hb
     ·have h3:=(hsk.out (j-i) (by omega)).2 b (by rw[show i+(j-i)=j by omega];exact hb)
      cases hc:chars.data.toList.contains b with
      |false=>rfl
      |true=>
       have hm:b∈chars.data.toList:=by simpa using hc
       obtain⟨k,hk2⟩:=List.getElem?_of_mem hm;have:=HA.out k b hk2;omega
    have hneg:¬((0:Int)<=-1):=by decide
    have hc0:(128:Int)<=(c:Int):=by omega
    have hc1:((c:Nat):Int)<=2147483647:=by omega
    clear hxl hx
    go_wp2_with (go_at_fn (ρ.f 152);refine(Any.af1 {L with} _ _ _ hc0 hc1 hcs HA.out).mono ?_;rintro e w' ⟨rfl,hbw⟩)
    go_roundg (s.size-(i+d))
    case measure=>omega
    case rel=>exact⟨i+d,hle,by omega,(hbw.block _ (by simpa[iterAt_size] using hkl)).trans hio,hbo.out.trans (hbw.mono (by rw[iterAt_size];omega)),hno.out⟩
  ·obtain rfl:i=s.size:=by omega
   have hnx:=fun ty=>run_next_end_at (P:=P) _ w.heap.size s s.size ty hk (by omega)
   go_wp2
   go_ret
   exact⟨by rw[Lib.indexAny_none (by rw[<-Lib.size_eq];exact HN.out)];rfl,qK.out⟩
theorem Any.af3(L:Lays.n153 P ρ)(h116:(P.info? (ρ.t 116)).map (fun i=>(i.zero,i.size))=some (some (.agg (Array.replicate 256 (.bool false))),256))(s chars:ByteArray)(w:World)(hs:s.size<4294967281)(h2:2<=chars.size)(hcs:chars.size<=1000000)(hac:qj chars):
  Calls P (ρ.f 153) #[.string s,.string chars] w fun e w'=>e=.returned (.int .i64 (Lib.indexAny s.data.toList chars.data.toList))/\Below w.heap.size w w':=by
 by_cases h8:s.size<=8
 ·exact Any.ae2 L s chars w h2 h8 hcs hac
 ·refine(Any.strings_IndexAny_long L (zero_of_info h116).1 (zero_of_info h116).2 s chars w h2 (by omega) hs (by omega) hac).mono fun e w' ⟨h1,h2⟩=>⟨h1,?_⟩
  rw[h2];exact((Below.refl _ _).alloc (Nat.le_refl _) _).alloc (by simp) _
end Go.Proofs
namespace Go.Proofs
open Go.Jk
noncomputable def Xv:aH:=FQ
theorem aqZ:aE O 214 Xv:=ajL (fun _ _=>enters_of Tryz.func214 (by kernel_rfl) rfl _ _) fun s p w h1 h2 h3 aF=>Any.af3 Tryz.anV (by kernel_rfl) s p w h1 h2 h3 aF
noncomputable abbrev avr:a8:=[(102,xA),(214,Xv),(215,_O)]
theorem aaZ:aT O (aZ af avr):=aY ⟨Dv,aqZ,asF,⟨⟩⟩
abbrev TD:Shape:=⟨[am 0,ax 2 2 0,ax 4 4 0],[aw 2 [ah,ba,ah],aw 4 [ah,ba,ah]],49⟩
abbrev Th:List aR:=[(.norm,⟨[ax 2 2 0,ax 4 4 0],[aw 2 [ah,ba,ah],aw 4 [ah,ba,ah]],49⟩),(.ret,⟨[ax 2 2 0,ar 3],[aw 2 [ah,ba,ah]],49⟩)]
noncomputable def nA(y:TD.J):Option (aG Th):=
(rD y.1.1 ([61,60,62]:B)).bind fun a=>
 bif(decide ((Lib.indexAny y.1.1 ([61,60,62]:B))>=(0:Int))) then
(bq y.1.1 (0:Int) (Lib.indexAny y.1.1 ([61,60,62]:B))).bind fun b=>
(bq y.1.1 (Lib.indexAny y.1.1 ([61,60,62]:B)) (y.1.1.length:Int)).bind fun c=>
(f215 ((c,([62,61]:B),()),())).bind fun d=>
 bif d.1.1 then
(bq c (2:Int) (c.length:Int)).bind fun e=>
 some (.inl (((),(),()),(y.2.1.1,y.2.1.2.1,y.2.1.2.2.1,()),(b,(2:Int),e,()),()))
else
(aS c (0:Int)).bind fun f=>
 bif((f.toNat:Int)==(61:Int)) then
(bq c (1:Int) (c.length:Int)).bind fun g=>
 some (.inl (((),(),()),(y.2.1.1,y.2.1.2.1,y.2.1.2.2.1,()),(b,(1:Int),g,()),()))
else
(aS c (0:Int)).bind fun h=>
 bif((h.toNat:Int)==(60:Int)) then
(bq c (1:Int) (c.length:Int)).bind fun i=>
 some (.inl (((),(),()),(y.2.1.1,y.2.1.2.1,y.2.1.2.2.1,()),(b,(3:Int),i,()),()))
else
 some (.inr (((),false,()),(([]:B),(0:Int),([]:B),()),()))
else
 some (.inl (((),(),()),(y.2.1.1,y.2.1.2.1,y.2.1.2.2.1,()),(y.2.2.1.1,y.2.2.1.2.1,y.2.2.1.2.2.1,()),()))
theorem anh:aV O (ap (codeOf Tryz.f169) 1 14) (aX TD Th nA):=cm aaZ (by kernel_rfl) ag fun y=>by kernel_rfl
abbrev i169:Shape:=⟨[am 0],[],49⟩
abbrev Y1:Shape:=⟨[ax 2 2 0,ar 3],[aw 2 [ah,ba,ah]],49⟩
noncomputable def f169(a:i169.J):Option Y1.J:=
(nA ((a.1.1,(),(),()),(([]:B),(0:Int),([]:B),()),(a.1.1,(0:Int),([]:B),()),())).bind fun b=>
(match b with
|.inl c=>
(f102 (((c.2.2.1.1,c.2.2.1.2.1,c.2.2.1.2.2.1,()),()),())).bind fun d=>
 bif(!d.1.1) then
 some (((),false,()),(([]:B),(0:Int),([]:B),()),())
else
 some (((),true,()),(c.2.2.1.1,c.2.2.1.2.1,c.2.2.1.2.2.1,()),())
|.inr e=>
 some (((),e.1.2.1,()),(e.2.1.1,e.2.1.2.1,e.2.1.2.2.1,()),()))
noncomputable def aac:aH:=aL af Tryz.f169 i169 Y1 [] f169
theorem asY:aE O 169 aac:=aM aaZ Tryz.func169 (by kernel_rfl) (a7 anh ag) (fun y=>by kernel_rfl) fun a=>by kernel_rfl
def fb:B:=[61,60,62]
theorem Rz:∀s:B,((∀y,y∈s->fb.contains y=false)/\Lib.indexAny s fb=-1)\/∃a x r,s=a++x::r/\fb.contains x=true/\(∀y,y∈a->fb.contains y=false)/\Lib.indexAny s fb=(a.length:Int):=by
 intro s;induction s with
 |nil=>exact .inl ⟨fun y h=>(by cases h),rfl⟩
 |cons b l ih=>
  unfold Lib.indexAny;cases hb:fb.contains b with
  |true=>exact .inr ⟨[],b,l,rfl,hb,fun y h=>(by cases h),rfl⟩
  |false=>
   rcases ih with⟨h1,h2⟩|⟨a,x,r,h1,h2,h3,aF⟩
   ·refine .inl ⟨fun y hy=>?_,?_⟩
    ·rcases bO.1 hy with rfl|hy
     ·exact hb
     ·exact h1 y hy
    ·rw[h2];simp
   ·refine .inr ⟨b::a,x,r,by rw[h1];rfl,h2,fun y hy=>?_,?_⟩
    ·rcases bO.1 hy with rfl|hy
     ·exact hb
     ·exact h3 y hy
    ·rw[aF];have:((a.length:Int)==-1)=false:=by rw[beq_eq_false_iff_ne];omega
     simp[this]
theorem aow{a r:B}{x:UInt8}(ha:∀y,y∈a->fb.contains y=false)(hx:fb.contains x=true):Lib.indexAny (a++x::r) fb=(a.length:Int):=by
 induction a with
 |nil=>show Lib.indexAny (x::r) fb=_;unfold Lib.indexAny;rw[hx];rfl
 |cons b a ih=>
  show Lib.indexAny (b::(a++x::r)) fb=_;unfold Lib.indexAny;have hb:=ha b ci;rw[hb,ih fun y hy=>ha y (cf _ hy)]
  have:((a.length:Int)==-1)=false:=by rw[beq_eq_false_iff_ne];omega
  simp[this]
theorem aqe{s:B}(h:∀y,y∈s->fb.contains y=false):Lib.indexAny s fb=-1:=by
 rcases Rz s with⟨_,h2⟩|⟨a,x,r,h1,h2,_,_⟩
 ·exact h2
 ·have:=h x (by rw[h1];simp)
  rw[h2] at this;cases this
theorem amh{s:B}(h:s.length<=1000000):rD s ([61,60,62]:B)=some ():=by
 unfold rD;exact if_pos ⟨by omega,by decide,by decide,by decide⟩
def pX(a t:B):Option bF:=match t with
 |62::61::r=>some ⟨a,2,r⟩
 |61::r=>some ⟨a,1,r⟩
 |60::r=>some ⟨a,3,r⟩
 |_=>none
def k4(s:B):Option bF:=match Lib.indexAny s fb with
 |.ofNat k=>pX (s.take k) (s.drop k)
 |_=>some ⟨s,0,[]⟩
def e0(s:B):Option bF:=match k4 s with
 |some n=>bif dR n then some n else none
 |none=>none
def iO:bF:=⟨[],0,[]⟩
theorem Qt(s:B)(hs:s.length<=1000000):f169 ((s,()),())=some (((),((e0 s).isSome,())),((((e0 s).getD iO).name,(((e0 s).getD iO).kind,(((e0 s).getD iO).a6,()))),())):=by
 have hk:∀n:bF,n.name.length<=1000000->n.a6.length<=1000000->f102 (((n.name,(n.kind,(n.a6,()))),()),())=some ((dR n,()),()):=fun n h1 h2=>
  zi (((n.name,(n.kind,(n.a6,()))),()),()) (by show n.name.length<=2097152;omega) (by show n.a6.length<=2097152;omega)
 have fin:∀n:bF,n.name.length<=1000000->n.a6.length<=1000000->k4 s=some n->
   nA ((s,((),((),()))),((([]:B),((0:Int),(([]:B),()))),((s,((0:Int),(([]:B),()))),())))=some (.inl (((),((),())),((([]:B),((0:Int),(([]:B),()))),((n.name,(n.kind,(n.a6,()))),()))))->
   f169 ((s,()),())=some (((),((e0 s).isSome,())),((((e0 s).getD iO).name,(((e0 s).getD iO).kind,(((e0 s).getD iO).a6,()))),())):=by
  intro n h1 h2 hr hg;have uR:=hk n h1 h2;have hG:e0 s=bif dR n then some n else none:=by unfold e0;rw[hr]
  simp only[f169,hg,Y,uR,hG];cases dR n<;>rfl
 have en:rD s ([61,60,62]:B)=some ():=amh hs;rcases Rz s with⟨_,h2⟩|⟨a,x,r,h1,h2,h3,aF⟩
 ·refine fin ⟨s,0,[]⟩ hs (by simp) (by unfold k4;rw[h2];rfl) ?_
  have h2:Lib.indexAny s ([61,60,62]:B)=-1:=h2;have aa:decide ((-1:Int)>=0)=false:=rfl;simp only[nA,en,Y,h2,aa,ak]
 ·have pc:Lib.indexAny s ([61,60,62]:B)=(a.length:Int):=aF;have aa:decide ((a.length:Int)>=0)=true:=decide_eq_true (by omega)
  have hl:s.length=a.length+(x::r).length:=by rw[h1];simp
  have e1:bq s 0 ((a.length:Nat):Int)=some a:=by rw[gw (by omega),h1];simp
  have e2:bq s ((a.length:Nat):Int) ((s.length:Nat):Int)=some (x::r):=by rw[fO (by omega),h1];simp
  have hp:=afH (x::r) [62,61];have o5:aS (x::r) (0:Int)=some x:=rfl;have ej:k4 s=pX a (x::r):=by
   unfold k4;rw[aF];have d1:s.drop a.length=x::r:=by rw[h1];simp
   have d2:s.take a.length=a:=by rw[h1];simp
   show pX (s.take a.length) (s.drop a.length)=_;rw[d1,d2]
  have no:k4 s=none->nA ((s,((),((),()))),((([]:B),((0:Int),(([]:B),()))),((s,((0:Int),(([]:B),()))),())))=some (.inr (((),(false,())),((([]:B),((0:Int),(([]:B),()))),())))->
    f169 ((s,()),())=some (((),((e0 s).isSome,())),((((e0 s).getD iO).name,(((e0 s).getD iO).kind,(((e0 s).getD iO).a6,()))),())):=by
   intro hr hg;simp only[f169,hg,Y];unfold e0;rw[hr];rfl
  have hx:x=61\/x=60\/x=62:=by simpa[fb] using h2
  have uX:a.length<=1000000:=by omega
  have m':r.length<=1000000:=by simp at hl;omega
  rcases hx with rfl|rfl|rfl
  ·have hn:ek [62,61] (61::r)=none:=by unfold ek;cases r<;>simp
   rw[hn] at hp;refine fin ⟨a,1,r⟩ uX m' ej ?_
   have bz:bq (61::r) 1 (((61::r).length:Nat):Int)=some r:=fO (xs:=61::r) (a:=1) (by simp)
   have t1:((((61:UInt8).toNat:Nat):Int)==61)=true:=rfl;simp only[nA,en,Y,pc,aa,ad,e1,e2,hp,Option.isSome_none,ak,o5,t1,bz]
  ·have hn:ek [62,61] (60::r)=none:=by unfold ek;cases r<;>simp
   rw[hn] at hp;refine fin ⟨a,3,r⟩ uX m' ej ?_
   have bz:bq (60::r) 1 (((60::r).length:Nat):Int)=some r:=fO (xs:=60::r) (a:=1) (by simp)
   have t1:((((60:UInt8).toNat:Nat):Int)==61)=false:=rfl;have t2:((((60:UInt8).toNat:Nat):Int)==60)=true:=rfl;simp only[nA,en,Y,pc,aa,ad,e1,e2,hp,Option.isSome_none,ak,o5,t1,t2,bz]
  ·have t1:((((62:UInt8).toNat:Nat):Int)==61)=false:=rfl;have t2:((((62:UInt8).toNat:Nat):Int)==60)=false:=rfl;cases r with
   |nil=>
    have hn:ek [62,61] ([62]:B)=none:=by decide
    rw[hn] at hp;refine no ej ?_
    simp only[nA,en,Y,pc,aa,ad,e1,e2,hp,Option.isSome_none,ak,o5,t1,t2]
   |cons b r=>
    by_cases hb:b=61
    ·subst hb;have hn:ek [62,61] (62::61::r)=some r:=vJ [62,61] r;rw[hn] at hp;refine fin ⟨a,2,r⟩ uX (by simp at m';show r.length<=1000000;omega) ej ?_
     have bz:bq (62::61::r) 2 (((62::61::r).length:Nat):Int)=some r:=fO (xs:=62::61::r) (a:=2) (by simp)
     simp only[nA,en,Y,pc,aa,ad,e1,e2,hp,Option.isSome_some,bz]
    ·have hn:ek [62,61] (62::b::r)=none:=by
      have hb2:(b==61)=false:=by simpa using hb
      unfold ek;simp[hb2]
     rw[hn] at hp;refine no (ej.trans ?_) ?_
     ·unfold pX;split
      ·rename_i h;simp at h;exact absurd h.1 hb
      ·rename_i h;simp at h
      ·rename_i h;simp at h
      ·rfl
     ·simp only[nA,en,Y,pc,aa,ad,e1,e2,hp,Option.isSome_none,ak,o5,t1,t2]
theorem R'{s:B}(h:∀x,x∈s->(97<=x.toNat/\x.toNat<=122)\/(48<=x.toNat/\x.toNat<=57)):∀y,y∈s->fb.contains y=false:=by
 intro y hy;have:=h y hy;cases hc:fb.contains y with
 |false=>rfl
 |true=>
  have hx:y=61\/y=60\/y=62:=by simpa[fb] using hc
  rcases hx with rfl|rfl|rfl<;>simp at this
theorem aiU{n:bF}(h:dR n=true):k4 (cX n)=some n:=by
 obtain⟨h1,h2⟩:=yV h;have hno:=R' (Fs h1);obtain⟨bW,k,v⟩:=n;have key:∀(x:UInt8) (t:B),fb.contains x=true->k4 (bW++x::t)=pX bW (x::t):=by
  intro x t hx;unfold k4;rw[aow hno hx];have d1:(bW++x::t).drop bW.length=x::t:=by simp
  have d2:(bW++x::t).take bW.length=bW:=by simp
  show pX ((bW++x::t).take bW.length) ((bW++x::t).drop bW.length)=_;rw[d1,d2]
 rcases h2 with⟨hk,hv⟩|⟨hk,hv⟩
 ·have hk:k=0:=hk;have hv:v=[]:=hv;subst hk hv;have e:cX ⟨bW,0,[]⟩=bW:=by unfold cX ea;simp
  rw[e];unfold k4;rw[aqe hno];rfl
 ·rcases hk with hk|hk|hk
  ·have hk:k=1:=hk;subst hk;have e:cX ⟨bW,1,v⟩=bW++61::v:=by unfold cX ea;simp
   rw[e,key 61 v (by decide)];rfl
  ·have hk:k=2:=hk;subst hk;have e:cX ⟨bW,2,v⟩=bW++62::61::v:=by unfold cX ea;simp
   rw[e,key 62 (61::v) (by decide)];rfl
  ·have hk:k=3:=hk;subst hk;have e:cX ⟨bW,3,v⟩=bW++60::v:=by unfold cX ea;simp
   rw[e,key 60 v (by decide)];rfl
theorem alQ{n:bF}(h:dR n=true):e0 (cX n)=some n:=by
 unfold e0;rw[aiU h];simp[h]
noncomputable abbrev avq:a8:=[(114,xy),(115,DU),(216,_N)]
theorem D1:aT O (aZ af avq):=aY ⟨Du,K1,asE,⟨⟩⟩
abbrev TC:Shape:=⟨[ax 2 2 0,am 3,ar 4,am 6,ar 7,aO 8 .str],[aw 2 [ah,ba,ba,ah]],110⟩
abbrev Tg:List aR:=[(.norm,⟨[ax 2 2 0,am 3,ar 4,am 6,aO 8 .str,ar 26],[aw 2 [ah,ba,ba,ah]],110⟩)]
noncomputable def wl(y:TC.J):Option (aG Tg):=
 bif(!(!y.1.2.2.2.2.1)) then
 some (((),y.1.2.1,y.1.2.2.1,y.1.2.2.2.1,y.1.2.2.2.2.2.1,(decide ((y.1.2.2.2.2.2.1.length:Int)<(3:Int))),()),(y.2.1.1,y.2.1.2.1,y.2.1.2.2.1,y.2.1.2.2.2.1,()),())
else
 some (((),y.1.2.1,y.1.2.2.1,y.1.2.2.2.1,y.1.2.2.2.2.2.1,true,()),(y.2.1.1,y.2.1.2.1,y.2.1.2.2.1,y.2.1.2.2.2.1,()),())
theorem ang:aV O (ap (codeOf Tryz.f170) 1 60) (aX TC Tg wl):=cm D1 (by kernel_rfl) ag fun y=>by kernel_rfl
abbrev QX:Shape:=⟨[ax 2 2 0,am 3,ar 4,am 6,aO 8 .str,aj 9],[aw 2 [ah,ba,ba,ah]],110⟩
abbrev QE:List aR:=[(.norm,⟨[ax 2 2 0,am 3,ar 4,am 6,aO 8 .str,aj 9,ar 74],[aw 2 [ah,ba,ba,ah]],110⟩)]
noncomputable def GD(y:QX.J):Option (aG QE):=
(aS y.1.2.2.2.2.1 (0:Int)).bind fun a=>
 bif(!(!(a==([102,105,108,101]:B)))) then
 some (((),y.1.2.1,y.1.2.2.1,y.1.2.2.2.1,y.1.2.2.2.2.1,y.1.2.2.2.2.2.1,((y.1.2.2.2.2.1.length:Int) !=(4:Int)),()),(y.2.1.1,y.2.1.2.1,y.2.1.2.2.1,y.2.1.2.2.2.1,()),())
else
 some (((),y.1.2.1,y.1.2.2.1,y.1.2.2.2.1,y.1.2.2.2.2.1,y.1.2.2.2.2.2.1,true,()),(y.2.1.1,y.2.1.2.1,y.2.1.2.2.1,y.2.1.2.2.2.1,()),())
theorem aja:aV O (ap (codeOf Tryz.f170) 1 2044) (aX QX QE GD):=cm D1 (by kernel_rfl) ag fun y=>by kernel_rfl
abbrev QW:Shape:=⟨[ax 2 2 0,am 3,ar 4,am 6,aO 8 .str,aj 9,ar 10,aj 11],[aw 2 [ah,ba,ba,ah]],110⟩
abbrev QD:List aR:=[(.norm,⟨[ax 2 2 0,am 3,ar 4,am 6,aO 8 .str,aj 9,aj 11,ar 96],[aw 2 [ah,ba,ba,ah]],110⟩)]
noncomputable def GC(y:QW.J):Option (aG QD):=
 bif(!(!y.1.2.2.2.2.2.2.1)) then
 bif(!(decide ((y.1.2.2.2.1.length:Int)<=y.1.2.2.2.2.2.2.2.1))) then
(aS y.1.2.2.2.1 y.1.2.2.2.2.2.2.2.1).bind fun a=>
 some (((),y.1.2.1,y.1.2.2.1,y.1.2.2.2.1,y.1.2.2.2.2.1,y.1.2.2.2.2.2.1,y.1.2.2.2.2.2.2.2.1,((a.toNat:Int) !=(10:Int)),()),(y.2.1.1,y.2.1.2.1,y.2.1.2.2.1,y.2.1.2.2.2.1,()),())
else
 some (((),y.1.2.1,y.1.2.2.1,y.1.2.2.2.1,y.1.2.2.2.2.1,y.1.2.2.2.2.2.1,y.1.2.2.2.2.2.2.2.1,true,()),(y.2.1.1,y.2.1.2.1,y.2.1.2.2.1,y.2.1.2.2.2.1,()),())
else
 some (((),y.1.2.1,y.1.2.2.1,y.1.2.2.2.1,y.1.2.2.2.2.1,y.1.2.2.2.2.2.1,y.1.2.2.2.2.2.2.2.1,true,()),(y.2.1.1,y.2.1.2.1,y.2.1.2.2.1,y.2.1.2.2.2.1,()),())
theorem ai9:aV O (ap (codeOf Tryz.f170) 1 8188) (aX QW QD GC):=cm D1 (by kernel_rfl) ag fun y=>by kernel_rfl
abbrev i170:Shape:=⟨[am 0],[],110⟩
abbrev Lf:Shape:=⟨[ax 2 2 0,am 3,ar 4],[aw 2 [ah,ba,ba,ah]],110⟩
noncomputable def f170(a:i170.J):Option Lf.J:=
(f114 ((a.1.1,([10]:B),()),())).bind fun b=>
(f216 ((b.1.1,([32]:B),(5:Int),()),())).bind fun c=>
(wl (((),([]:B),false,b.1.2.1,b.1.2.2.1,c.1.1,()),(([]:B),(0:Int),(0:Int),([]:B),()),())).bind fun d=>
 bif d.1.2.2.2.2.2.1 then
 some (((),([]:B),false,()),(([]:B),(0:Int),(0:Int),([]:B),()),())
else
(aS d.1.2.2.2.2.1 (0:Int)).bind fun e=>
 bif(e==([108,105,110,107]:B)) then
(aS d.1.2.2.2.2.1 (1:Int)).bind fun f=>
(aS d.1.2.2.2.2.1 (2:Int)).bind fun g=>
 some (((),d.1.2.2.2.1,((d.1.2.2.2.2.1.length:Int)==(3:Int)),()),(f,(3:Int),(0:Int),g,()),())
else
(aS d.1.2.2.2.2.1 (1:Int)).bind fun h=>
(f115 ((h,(7:Int),()),())).bind fun i=>
 bif(!i.1.2.1) then
 some (((),([]:B),false,()),(([]:B),(0:Int),(0:Int),([]:B),()),())
else
(aS d.1.2.2.2.2.1 (0:Int)).bind fun j=>
 bif(j==([100,105,114]:B)) then
(aS d.1.2.2.2.2.1 (2:Int)).bind fun k=>
 some (((),d.1.2.2.2.1,((d.1.2.2.2.2.1.length:Int)==(3:Int)),()),(k,(1:Int),i.1.1,([]:B),()),())
else
(GD (((),d.1.2.1,d.1.2.2.1,d.1.2.2.2.1,d.1.2.2.2.2.1,i.1.1,()),(d.2.1.1,d.2.1.2.1,d.2.1.2.2.1,d.2.1.2.2.2.1,()),())).bind fun l=>
 bif l.1.2.2.2.2.2.2.1 then
 some (((),([]:B),false,()),(([]:B),(0:Int),(0:Int),([]:B),()),())
else
(aS l.1.2.2.2.2.1 (3:Int)).bind fun m=>
(f115 ((m,(80:Int),()),())).bind fun n=>
(GC (((),l.1.2.1,l.1.2.2.1,l.1.2.2.2.1,l.1.2.2.2.2.1,l.1.2.2.2.2.2.1,n.1.2.1,n.1.1,()),(l.2.1.1,l.2.1.2.1,l.2.1.2.2.1,l.2.1.2.2.2.1,()),())).bind fun D=>
 bif D.1.2.2.2.2.2.2.2.1 then
 some (((),([]:B),false,()),(([]:B),(0:Int),(0:Int),([]:B),()),())
else
(aS D.1.2.2.2.2.1 (2:Int)).bind fun p=>
(bq D.1.2.2.2.1 (0:Int) D.1.2.2.2.2.2.2.1).bind fun q=>
(bq D.1.2.2.2.1 (IntKind.i64.wrap (D.1.2.2.2.2.2.2.1+(1:Int))) (D.1.2.2.2.1.length:Int)).bind fun r=>
 some (((),r,true,()),(p,(2:Int),D.1.2.2.2.2.2.1,q,()),())
noncomputable def aab:aH:=aL af Tryz.f170 i170 Lf [] f170
theorem asX:aE O 170 aab:=aM D1 Tryz.func170 (by kernel_rfl) (a7 ang (a7 aja (a7 ai9 ag))) (fun y=>by kernel_rfl) fun a=>by kernel_rfl
def C8(a' w2 cr r:B):Option (aB×B):=bif fD 80 cr then(match r.drop (du cr).toNat with|10::eY=>some (⟨w2,2,du a',r.take (du cr).toNat⟩,eY)|_=>none) else none
def j'(ws:List B)(r:B):Option (aB×B):=match ws with
 |U::a'::w2::more=>
  bif U==ij then(bif more==[] then some (⟨a',3,0,w2⟩,r) else none)
  else bif fD 7 a' then
   (bif U==il then(bif more==[] then some (⟨w2,1,du a',[]⟩,r) else none)
   else bif U==iH then(match more with|[cr]=>C8 a' w2 cr r|_=>none) else none)
  else none
 |_=>none
def nH(s:B):Option (aB×B):=match dK 10 s with
 |some (b8,r)=>j' (splitN 32 4 b8) r
 |none=>none
theorem ag6{m:Int}{s:B}(h:fD m s=true):0<=du s/\du s<=m:=by
 unfold fD at h;simp only[bC,dY] at h;refine⟨?_,h.2⟩;have key:∀(s:B) (n:Int),s.all c7=true->0<=n->0<=s.foldl eA n:=by
  intro s;induction s with
  |nil=>intro n _ h;exact h
  |cons b s ih=>
   intro n aa hn;simp only[List.all_cons,bC] at aa;have hb:=jf aa.1;refine ih _ aa.2 ?_
   unfold eA;omega
 exact key s 0 h.1.1.1.1 (by decide)
theorem qM(c:UInt8):∀(k:Nat) (s p:B),p∈splitN c k s->p.length<=s.length:=by
 intro k;induction k with
 |zero=>intro s p h;simp[splitN] at h;subst h;exact Nat.le_refl _
 |succ k ih=>
  intro s p h;unfold splitN at h;cases hc:dK c s with
  |none=>rw[hc] at h;simp at h;subst h;exact Nat.le_refl _
  |some q=>
   obtain⟨x,y⟩:=q;rw[hc] at h;have hl:=(jD hc).1;have hl:s.length=x.length+1+y.length:=by rw[hl];simp;omega
   rcases bO.1 h with rfl|h
   ·omega
   ·have:=ih y p h;omega
theorem atN{aD:Type}(a b c:aD)(l:List aD):decide (((a::b::c::l).length:Int)<3)=false:=decide_eq_false (by simp;omega)
theorem azr{aD:Type}[BEq aD](a b c:aD)(l:List aD):(((a::b::c::l).length:Int)==3)=(l==[]):=by
 cases l with
 |nil=>rfl
 |cons x l=>
  have h:((x::l)==([]:List aD))=false:=rfl;rw[h,beq_eq_false_iff_ne];simp;omega
theorem O_(s:B)(hs:s.length<=1000000):∃(r:B) (e:aB),f170 ((s,()),())=some (((),(r,((nH s).isSome,()))),((e.path,(e.kind,(e.mode,(e.text,())))),()))/\∀q,nH s=some q->q=(e,r):=by
 have hc:=nF 10 s (by unfold aA;omega)
 have hc:f114 ((s,(([10]:B),())),())=_:=hc;have zero:∀{D:Option (aB×B)} {x:Option Lf.J},D=none->x=some (((),(([]:B),(false,()))),((([]:B),((0:Int),((0:Int),(([]:B),())))),()))->
   ∃(r:B) (e:aB),x=some (((),(r,(D.isSome,()))),((e.path,(e.kind,(e.mode,(e.text,())))),()))/\∀q,D=some q->q=(e,r):=by
  intro D x aP hx;subst aP;exact⟨[],⟨[],0,0,[]⟩,hx,fun q aC=>by cases aC⟩
 cases aC:dK 10 s with
 |none=>
  have hw:=Qr (hQ 10 s) (by unfold hQ;rw[aC];show s.length<=1000000000;omega)
  rw[aC] at hc;refine zero (by unfold nH;rw[aC]) ?_
  simp only[f170,hc,Y,hw,wl,Option.isSome_none,bJ,bu,ak,ad]
 |some q=>
  obtain⟨b8,rest⟩:=q;have hl:=(jD aC).1;have hl:s.length=b8.length+1+rest.length:=by rw[hl];simp;omega
  have ha:hQ 10 s=b8:=by unfold hQ;rw[aC]
  have hb:hP 10 s=rest:=by unfold hP;rw[aC]
  have hw:=Qr b8 (by omega)
  rw[aC,ha,hb] at hc;have hr:nH s=j' (splitN 32 4 b8) rest:=by unfold nH;rw[aC]
  have hm:=qM 32 4 b8;rw[hr];generalize splitN 32 4 b8=ws at hw hm;have short:decide ((ws.length:Int)<3)=true->j' ws rest=none->∃(r:B) (e:aB),f170 ((s,()),())=some (((),(r,((j' ws rest).isSome,()))),((e.path,(e.kind,(e.mode,(e.text,())))),()))/\∀q,j' ws rest=some q->q=(e,r):=by
   intro h1 h2;refine zero h2 ?_
   simp only[f170,hc,Y,hw,wl,Option.isSome_some,bJ,bu,ak,ad,h1]
  match ws,short,hw,hm with
  |[],short,hw,hm=>exact short rfl rfl
  |[_],short,hw,hm=>exact short rfl rfl
  |[_,_],short,hw,hm=>exact short rfl rfl
  |U::a'::w2::more,_,hw,hm=>
   have fy:aS (U::a'::w2::more) (0:Int)=some U:=rfl;have eC:aS (U::a'::w2::more) (1:Int)=some a':=rfl;have gn:aS (U::a'::w2::more) (2:Int)=some w2:=rfl;have h3:=atN U a' w2 more;have ec:=azr U a' w2 more;have m1:=hm a' (by simp)
   have n1:=zf a' 7 (by unfold aA;omega)
   simp only[f170,hc,Y,hw,wl,Option.isSome_some,bJ,bu,ak,ad,h3,fy,eC,gn,ec,n1];unfold j';have Dg:(U==([108,105,110,107]:B))=(U==ij):=rfl;have xp:(U==([100,105,114]:B))=(U==il):=rfl;have tY:(U==([102,105,108,101]:B))=(U==iH):=rfl;simp only[Dg,xp];cases fa:U==ij with
   |true=>
    simp only[ad];refine⟨rest,⟨a',3,0,w2⟩,?_,fun q aC=>?_⟩
    ·cases more==[]<;>rfl
    ·cases M5:more==[]<;>rw[M5] at aC<;>simp at aC
     exact aC.symm
   |false=>
    simp only[ak];cases E6:fD 7 a' with
    |false=>
     simp only[bJ,ad,ak];exact zero rfl rfl
    |true=>
     simp only[bu,ad,ak];cases E7:U==il with
     |true=>
      simp only[ad];refine⟨rest,⟨w2,1,du a',[]⟩,?_,fun q aC=>?_⟩
      ·cases more==[]<;>rfl
      ·cases M5:more==[]<;>rw[M5] at aC<;>simp at aC
       exact aC.symm
     |false=>
      simp only[ak,GD,fy,Y,tY];cases aDC:U==iH with
      |false=>
       simp only[bJ,bu,ad,ak,Y];exact zero rfl rfl
      |true=>
       simp only[bJ,bu,ad,ak,Y];match more,hm,fy,eC,gn,h3,ec,hw with
       |[],hm,fy,eC,gn,h3,ec,hw=>exact zero rfl rfl
       |cr::lv::m,hm,fy,eC,gn,h3,ec,hw=>
        have:((((U::a'::w2::cr::lv::m).length:Nat):Int) !=4)=true:=by rw[bne_iff_ne];simp;omega
        simp only[this,ad];exact zero rfl rfl
       |[cr],hm,fy,eC,gn,h3,ec,hw=>
        have aF:(((([U,a',w2,cr]:List B).length:Nat):Int) !=4)=false:=rfl;have jY:aS [U,a',w2,cr] (3:Int)=some cr:=rfl;have m3:=hm cr (by simp)
        have je:=zf cr 80 (by unfold aA;omega)
        simp only[aF,ak,jY,Y,je,GC];unfold C8;cases vg:fD 80 cr with
        |false=>
         simp only[bJ,bu,ad,ak,Y];exact zero rfl rfl
        |true=>
         obtain⟨b1,b2⟩:=ag6 vg;obtain⟨n,hn⟩:=Int.eq_ofNat_of_zero_le b1;simp only[bJ,bu,ad,ak,Y,hn,Int.toNat_natCast];rw[hn] at b2;by_cases hle:rest.length<=n
         ·have d1:decide (((rest.length:Nat):Int)<=(n:Int))=true:=decide_eq_true (by omega)
          have d2:rest.drop n=[]:=List.drop_eq_nil_of_le hle;simp only[d1,bu,ak,Y,ad,d2];exact zero rfl rfl
         ·have d1:decide (((rest.length:Nat):Int)<=(n:Int))=false:=decide_eq_false (by omega)
          obtain⟨b,eY,aa⟩:∃b eY,rest.drop n=b::eY:=by
           cases h:rest.drop n with
           |nil=>have:=List.drop_eq_nil_iff.1 h;omega
           |cons b eY=>exact⟨b,eY,rfl⟩
          have ayE:aS rest (n:Int)=some b:=by
           rw[cd];have:rest[n]? =(rest.drop n)[0]? :=by simp
           rw[this,aa];rfl
          simp only[d1,bJ,ad,ayE,Y,aa];by_cases Nv:b=10
          ·subst Nv;have t:((((10:UInt8).toNat:Nat):Int) !=10)=false:=rfl;have s1:bq rest 0 (n:Int)=some (rest.take n):=gw (by omega)
           have hw1:IntKind.i64.wrap ((n:Int)+1)=((n+1:Nat):Int):=b9 (by unfold aA;omega)
           have dq:rest.drop (n+1)=eY:=by rw[<-List.drop_drop,aa];rfl
           have s2:bq rest ((n+1:Nat):Int) ((rest.length:Nat):Int)=some eY:=by rw[fO (by omega),dq]
           simp only[t,ak,s1,hw1,s2,Y];exact⟨eY,⟨w2,2,du a',rest.take n⟩,rfl,fun q aC=>by simp at aC;exact aC.symm⟩
          ·have t:(((b.toNat:Nat):Int) !=10)=true:=by
            rw[bne_iff_ne];intro h;exact Nv (UInt8.toNat_inj.1 (by show b.toNat=10;omega))
           simp only[t,ad];refine zero ?_ rfl;split
           ·rename_i h;cases h;exact absurd rfl Nv
           ·rfl
noncomputable abbrev avX:a8:=[(105,xz),(170,aab)]
theorem Mn:aT O (aZ af avX):=aY ⟨z105,asX,⟨⟩⟩
abbrev Q2:Shape:=⟨[bd 4 3000256,ax 6 6 0,am 7,ar 8],[bc 3000256 .entry 4 0,aw 6 [ah,ba,ba,ah]],34⟩
abbrev QJ:List aR:=[(.norm,⟨[bd 4 3000256,ax 6 6 0,am 7,ar 24],[bc 3000256 .entry 4 0,aw 6 [ah,ba,ba,ah]],34⟩)]
noncomputable def sY(y:Q2.J):Option (aG QJ):=
 bif(!(!y.1.2.2.2.1)) then
 some (((),(),y.1.2.2.1,((y.2.1.length:Int)==(16:Int)),()),y.2.1,(y.2.2.1.1,y.2.2.1.2.1,y.2.2.1.2.2.1,y.2.2.1.2.2.2.1,()),())
else
 some (((),(),y.1.2.2.1,true,()),y.2.1,(y.2.2.1.1,y.2.2.1.2.1,y.2.2.1.2.2.1,y.2.2.1.2.2.2.1,()),())
theorem ajk:aV O (ap (di (ap (codeOf Tryz.f118) 1 60)) 120 3860) (aX Q2 QJ sY):=cm Mn (by kernel_rfl) ag fun y=>by kernel_rfl
abbrev Bf:Shape:=⟨[bd 4 3000256,am 5],[bc 3000256 .entry 4 0],34⟩
abbrev IA:List aR:=[(.ret,⟨[bd 2 3000128,ar 3],[bc 3000128 .entry 2 0],34⟩),(.exit 0,⟨[bd 4 3000256],[bc 3000256 .entry 4 0],34⟩)]
noncomputable def ri(y:Bf.J):bP Bf IA:=
 bif(!(y.1.2.1==([]:B))) then
(f170 ((y.1.2.1,()),())).bind fun a=>
(sY (((),(),a.1.2.1,a.1.2.2.1,()),y.2.1,(a.2.1.1,a.2.1.2.1,a.2.1.2.2.1,a.2.1.2.2.2.1,()),())).bind fun b=>
 bif b.1.2.2.2.1 then
 some (.inr (.inl (((),false,()),([]:List aB),())))
else
(cl 48 b.2.1 ([(aB.mk b.2.2.1.1 b.2.2.1.2.1 b.2.2.1.2.2.1 b.2.2.1.2.2.2.1)]:List aB)).bind fun c=>
 some (.inl (((),b.1.2.2.1,()),c,()))
else
 some (.inr (.inr (((),()),y.2.1,())))
noncomputable def wc:Bf.J->Option (aG IA):=bA ri
theorem anC:aV O (ap (codeOf Tryz.f118) 1 60) (aX Bf IA wc):=bR Mn (by kernel_rfl) (a7 ajk ag) fun y=>by kernel_rfl
abbrev i118:Shape:=⟨[am 0],[],34⟩
abbrev ZA:Shape:=⟨[bd 2 3000128,ar 3],[bc 3000128 .entry 2 0],34⟩
noncomputable def f118(a:i118.J):Option ZA.J:=
(wc (((),a.1.1,()),([]:List aB),())).bind fun b=>
(match b with
|.inl c=>
 some (((),c.1.2.1,()),c.2.1,())
|.inr d=>
(f105 ((d.2.1,()),())).bind fun e=>
 bif(!e.1.1) then
 some (((),false,()),([]:List aB),())
else
 some (((),true,()),d.2.1,()))
noncomputable def aaF:aH:=aL af Tryz.f118 i118 ZA [] f118
theorem atf:aE O 118 aaF:=aM Mn Tryz.func118 (by kernel_rfl) (a7 anC ag) (fun y=>by kernel_rfl) fun a=>by kernel_rfl
theorem Hf{n:Nat}{m:Int}(h:(n:Int)<=m)(iz:n<1000000000):fD m (Lib.itoa (n:Int))=true/\du (Lib.itoa (n:Int))=(n:Int):=by
 rw[ox];exact⟨alv h iz,wm n⟩
theorem O0(ws:List B)(k:Nat)(h:ws≠[])(hn:∀w,w∈ws->cn 32 w)(hk:ws.length<=k+1):splitN 32 k (lX ws)=ws:=by
 have:=P5 h hn;rw[y3 32 k _ (by rw[this];exact hk),this]
theorem Q7{e:aB}(h:e7 e=true)(r:B):nH (eo e++r)=some (e,r):=by
 have hw:=(F0 h).1;unfold nH;rw[Rf h];show j' (splitN 32 4 (pZ e)) (wV e r)=_;obtain⟨n,hn,iA⟩:=Hg h;obtain⟨g1,g2⟩:=Hf (n:=n) (m:=7) (by omega) (by omega)
 have rV:splitN 32 4 (pZ e)=mD e:=O0 _ 4 (by unfold mD;cases e.kind==1<;>cases e.kind==3<;>simp) hw (by unfold mD;cases e.kind==1<;>cases e.kind==3<;>simp)
 rw[rV];obtain⟨p,k,m,t⟩:=e;have hn:m=n:=hn;subst hn;rcases vz h with hk|hk|hk
 ·have hk:k=1:=hk;subst hk;have ay:t=[]:=Rq h rfl;subst ay;show j' [il,Lib.itoa (n:Int),p] r=_;unfold j';have e1:(il==ij)=false:=by decide
  have e2:(il==il)=true:=by decide
  simp only[e1,e2,g1,g2,ad,ak];rfl
 ·have hk:k=2:=hk;subst hk;have hb:t.length<=80:=by
   have:=P' h rfl;unfold oJ at this;simp only[bC,dY] at this;exact this.2
  obtain⟨aI,aJ⟩:=Hf (n:=t.length) (m:=80) (by omega) (by omega)
  show j' [iH,Lib.itoa (n:Int),p,Lib.itoa (t.length:Int)] (t++10::r)=_;unfold j';have e1:(iH==ij)=false:=by decide
  have e2:(iH==il)=false:=by decide
  have bz:(iH==iH)=true:=by decide
  simp only[e1,e2,bz,g1,g2,ad,ak];unfold C8;have d1:(t++10::r).drop t.length=10::r:=by simp
  have d2:(t++10::r).take t.length=t:=by simp
  simp only[aI,aJ,ad,Int.toNat_natCast,d1,d2,g2]
 ·have hk:k=3:=hk;subst hk;obtain⟨_,hm⟩:=FW h rfl;have hm:(n:Int)=0:=hm;show j' [ij,p,t] r=_;unfold j';have e1:(ij==ij)=true:=by decide
  simp only[e1,ad];rw[hm];rfl
theorem Gj{s r:B}{e:aB}(h:nH s=some (e,r)):e.path.length<=s.length/\e.text.length<=s.length/\r.length<s.length:=by
 unfold nH at h;cases aC:dK 10 s with
 |none=>rw[aC] at h;cases h
 |some q=>
  obtain⟨b8,rest⟩:=q;rw[aC] at h;have hl:=(jD aC).1;have hl:s.length=b8.length+1+rest.length:=by rw[hl];simp;omega
  have hm:=qM 32 4 b8;have h:j' (splitN 32 4 b8) rest=some (e,r):=h;generalize splitN 32 4 b8=ws at h hm;match ws,h,hm with
  |[],h,hm=>cases h
  |[_],h,hm=>cases h
  |[_,_],h,hm=>cases h
  |U::a'::w2::more,h,hm=>
   have m1:=hm a' (by simp)
   have m2:=hm w2 (by simp)
   unfold j' at h;simp only at h;cases fa:U==ij<;>simp only[fa,ad,ak] at h
   ·cases e1:fD 7 a'<;>simp only[e1,ad,ak] at h
    ·cases h
    ·cases e2:U==il<;>simp only[e2,ad,ak] at h
     ·cases bz:U==iH<;>simp only[bz,ad,ak] at h
      ·cases h
      ·split at h
       ·rename_i cr;unfold C8 at h;cases dn:fD 80 cr<;>simp only[dn,ad,ak] at h
        ·cases h
        ·split at h
         ·rename_i eY aa;simp only[bE,Prod.mk.injEq] at h;obtain⟨rfl,rfl⟩:=h;have M8:=congrArg List.length aa;simp only[List.length_drop,cW] at M8;refine⟨by show w2.length<=_;omega,by show(rest.take _).length<=_;simp;omega,by omega⟩
         ·cases h
       ·cases h
     ·cases bz:more==[]<;>simp only[bz,ad,ak] at h
      ·cases h
      ·simp only[bE,Prod.mk.injEq] at h;obtain⟨rfl,rfl⟩:=h;exact⟨by show w2.length<=_;omega,by show 0<=_;omega,by omega⟩
   ·cases bz:more==[]<;>simp only[bz,ad,ak] at h
    ·cases h
    ·simp only[bE,Prod.mk.injEq] at h;obtain⟨rfl,rfl⟩:=h;exact⟨by show a'.length<=_;omega,by show w2.length<=_;omega,by omega⟩
def qk(k:Nat)(t:List aB):Prop:=∀e,e∈t->e.path.length<=k/\e.text.length<=k
theorem ao0:∀(m:Nat) (s:B) (t:List aB),s.length<=m->m<=1000000->t.length<=16->qk 1000000 t->
  (∃ns:List aB,wc (((),(s,())),(t,()))=some (.inr (((),()),(ns,())))/\ns.length<=16/\qk 1000000 ns)\/wc (((),(s,())),(t,()))=some (.inl (((),(false,())),(([]:List aB),()))):=by
 intro m;induction m with
 |zero=>
  intro s t hs _ ay ha;have:s=[]:=List.length_eq_zero_iff.1 (by omega)
  subst this;exact .inl ⟨t,cC rfl,ay,ha⟩
 |succ m ih=>
  intro s t hs hm ay ha;cases s with
  |nil=>exact .inl ⟨t,cC rfl,ay,ha⟩
  |cons b iR=>
   have hne:((b::iR)==([]:B))=false:=rfl;generalize eZ:b::iR=s at hs hne;obtain⟨r,e,h1,h2⟩:=O_ s (by omega)
   cases hr:nH s with
   |none=>
    rw[hr] at h1;refine .inr (cC ?_);simp only[ri,hne,bJ,ad,h1,Y,Option.isSome_none,sY,bu,ak]
   |some q=>
    have aC:=h2 q hr;subst aC;rw[hr] at h1;obtain⟨ed,fU,vd⟩:=Gj hr;by_cases yf:t.length=16
    ·refine .inr (cC ?_);have d:(((t.length:Nat):Int)==16)=true:=by rw[beq_iff_eq];omega
     simp only[ri,hne,bJ,ad,h1,Y,Option.isSome_some,sY,bu,ak,d]
    ·have d:(((t.length:Nat):Int)==16)=false:=by rw[beq_eq_false_iff_ne];omega
     have fJ:cl 48 t ([(aB.mk e.path e.kind e.mode e.text)]:List aB)=some (t++[e]):=dy (by decide) (by unfold aA;simp;omega)
     have st:ri (((),(s,())),(t,()))=some (.inl (((),(r,())),(t++[e],()))):=by
      simp only[ri,hne,bJ,ad,h1,Y,Option.isSome_some,sY,bu,ak,d,fJ]
     have auB:qk 1000000 (t++[e]):=fun x hx=>by
      rcases bp.1 hx with hx|hx
      ·exact ha x hx
      ·rw[List.mem_singleton.1 hx];exact⟨by omega,by omega⟩
     rcases ih r (t++[e]) (by omega) (by omega) (by simp;omega) auB with⟨ns,g1,g2,g3⟩|g1
     ·exact .inl ⟨ns,(d' st).trans g1,g2,g3⟩
     ·exact .inr ((d' st).trans g1)
theorem aoZ:∀(cv t:List aB),(∀e,e∈cv->e7 e=true)->t.length+cv.length<=16->(dt cv).length<=1000000->
  wc (((),(dt cv,())),(t,()))=some (.inr (((),()),(t++cv,()))):=by
 intro cv;induction cv with
 |nil=>intro t _ _ _;rw[List.append_nil];exact cC rfl
 |cons e cv ih=>
  intro t h ay hl;have he:=h e ci;have hr:=Q7 he (dt cv);have hE:dt (e::cv)=eo e++dt cv:=by unfold dt;rw[List.flatMap_cons]
  rw[hE] at hl ⊢;have hlen:=(Gj hr).2.2;have hne:((eo e++dt cv)==([]:B))=false:=by
   cases hx:eo e++dt cv with
   |nil=>rw[hx] at hlen;simp at hlen
   |cons b r=>rfl
  obtain⟨r,cU,h1,h2⟩:=O_ (eo e++dt cv) hl;have aC:=h2 _ hr;simp only[Prod.mk.injEq] at aC;obtain⟨rfl,rfl⟩:=aC;rw[hr] at h1;have d:(((t.length:Nat):Int)==16)=false:=by rw[beq_eq_false_iff_ne];simp at ay;omega
  have fJ:cl 48 t ([(aB.mk e.path e.kind e.mode e.text)]:List aB)=some (t++[e]):=dy (by decide) (by unfold aA;simp;simp at ay;omega)
  have st:ri (((),(eo e++dt cv,())),(t,()))=some (.inl (((),(dt cv,())),(t++[e],()))):=by
   simp only[ri,hne,bJ,ad,h1,Y,Option.isSome_some,sY,bu,ak,d,fJ]
  have:=ih (t++[e]) (fun x hx=>h x (cf _ hx)) (by simp at ay ⊢;omega) (by omega)
  rw[List.append_assoc] at this;exact(d' st).trans this
theorem ae7(s:B)(hs:s.length<=1000000):∃(ok:Bool) (t:List aB),f118 ((s,()),())=some (((),(ok,())),(t,()))/\t.length<=16/\qk 1000000 t:=by
 rcases ao0 s.length s [] (Nat.le_refl _) hs (by decide) (fun x hx=>by cases hx) with⟨ns,g1,g2,g3⟩|g1
 ·have ay:=qP ((ns,()),()) ⟨by show ns.length<=2097152;omega,fun e he=>by have:=g3 e he;exact⟨by show e.path.length<=2097152;omega,by show e.text.length<=2097152;omega⟩⟩
  have ay:f105 ((ns,()),())=some ((dQ ns,()),()):=ay;simp only[f118,g1,Y,ay];cases dQ ns with
  |false=>exact⟨false,[],rfl,by simp,fun x hx=>by cases hx⟩
  |true=>exact⟨true,ns,rfl,g2,g3⟩
 ·simp only[f118,g1,Y];exact⟨false,[],rfl,by simp,fun x hx=>by cases hx⟩
theorem ae6(t:List aB)(h:dQ t=true)(hs:(dt t).length<=1000000)(hb:iL t):
  f118 ((dt t,()),())=some (((),(true,())),(t,())):=by
 have g1:=aoZ t [] (vu h) (by have:=j3 h;simpa using this) hs
 have ay:=qP ((t,()),()) hb;have ay:f105 ((t,()),())=some ((dQ t,()),()):=ay;simp only[f118,g1,List.nil_append,Y,ay,h,bu,ak]
noncomputable abbrev avY:a8:=[(114,xy),(168,aad),(169,aac)]
theorem Mo:aT O (aZ af avY):=aY ⟨Du,z168,asY,⟨⟩⟩
abbrev Q3:Shape:=⟨[bd 5 3000320,am 7,ar 10,ax 11 11 0,ar 12],[bc 3000320 .need 5 0,aw 11 [ah,ba,ah]],46⟩
abbrev QK:List aR:=[(.norm,⟨[bd 5 3000320,am 7,ax 11 11 0,ar 40],[bc 3000320 .need 5 0,aw 11 [ah,ba,ah]],46⟩)]
noncomputable def vH(y:Q3.J):Option (aG QK):=
 bif(!(!y.1.2.2.1)) then
 some (((),y.1.2.1,(),(!y.1.2.2.2.2.1),()),y.2.1,(y.2.2.1.1,y.2.2.1.2.1,y.2.2.1.2.2.1,()),())
else
 some (((),y.1.2.1,(),true,()),y.2.1,(y.2.2.1.1,y.2.2.1.2.1,y.2.2.1.2.2.1,()),())
theorem ajl:aV O (ap (di (ap (codeOf Tryz.f117) 1 14)) 28 7292) (aX Q3 QK vH):=cm Mo (by kernel_rfl) ag fun y=>by kernel_rfl
abbrev Bg:Shape:=⟨[am 0,bd 5 3000320],[bc 3000320 .need 5 0],46⟩
abbrev IB:List aR:=[(.ret,⟨[bd 2 3000128,am 3,ar 4],[bc 3000128 .need 2 0],46⟩)]
noncomputable def mB(y:Bg.J):bP Bg IB:=
(f114 ((y.1.1,([10]:B),()),())).bind fun a=>
 bif(!a.1.2.2.1) then
 some (.inr (((),([]:B),false,()),([]:List bF),()))
else
 bif(a.1.1==([]:B)) then
 some (.inr (((),a.1.2.1,true,()),y.2.1,()))
else
(f168 ((a.1.1,([110,101,101,100,32]:B),()),())).bind fun b=>
(f169 ((b.1.1,()),())).bind fun c=>
(vH (((),a.1.2.1,b.1.2.1,(),c.1.2.1,()),y.2.1,(c.2.1.1,c.2.1.2.1,c.2.1.2.2.1,()),())).bind fun d=>
 bif d.1.2.2.2.1 then
 some (.inr (((),([]:B),false,()),([]:List bF),()))
else
(cl 40 d.2.1 ([(bF.mk d.2.2.1.1 d.2.2.1.2.1 d.2.2.1.2.2.1)]:List bF)).bind fun e=>
 some (.inl ((d.1.2.1,(),()),e,()))
noncomputable def Bq:Bg.J->Option (aG IB):=bA mB
theorem anD:aV O (ap (codeOf Tryz.f117) 1 14) (aX Bg IB Bq):=bR Mo (by kernel_rfl) (a7 ajl ag) fun y=>by kernel_rfl
abbrev i117:Shape:=⟨[am 0],[],46⟩
abbrev ZB:Shape:=⟨[bd 2 3000128,am 3,ar 4],[bc 3000128 .need 2 0],46⟩
noncomputable def f117(a:i117.J):Option ZB.J:=
(Bq ((a.1.1,(),()),([]:List bF),())).bind fun b=>
 some (((),b.1.2.1,b.1.2.2.1,()),b.2.1,())
noncomputable def aaG:aH:=aL af Tryz.f117 i117 ZB [] f117
theorem z117:aE O 117 aaG:=aM Mo Tryz.func117 (by kernel_rfl) (a7 anD ag) (fun y=>by kernel_rfl) fun a=>by kernel_rfl
def uy(k:Nat)(t:List bF):Prop:=∀e,e∈t->e.name.length<=k/\e.a6.length<=k
theorem aiT{a t:B}{n:bF}(h:pX a t=some n):n.name=a/\n.a6.length<=t.length:=by
 unfold pX at h;split at h
 ·cases h;exact⟨rfl,by simp;omega⟩
 ·cases h;exact⟨rfl,by simp⟩
 ·cases h;exact⟨rfl,by simp⟩
 ·cases h
theorem aiV{s:B}{n:bF}(h:k4 s=some n):n.name.length<=s.length/\n.a6.length<=s.length:=by
 unfold k4 at h;split at h
 ·rename_i k _;obtain⟨h1,h2⟩:=aiT h;rw[h1];simp at h2 ⊢;omega
 ·cases h;exact⟨Nat.le_refl _,by simp⟩
theorem alR(s:B):((e0 s).getD iO).name.length<=s.length/\((e0 s).getD iO).a6.length<=s.length:=by
 have no:e0 s=none->((e0 s).getD iO).name.length<=s.length/\((e0 s).getD iO).a6.length<=s.length:=fun h=>by
  rw[h];exact⟨Nat.zero_le _,Nat.zero_le _⟩
 cases h:k4 s with
 |none=>exact no (by unfold e0;rw[h])
 |some n=>
  have hG:e0 s=bif dR n then some n else none:=by unfold e0;rw[h]
  cases hk:dR n with
  |true=>rw[hG,hk];exact aiV h
  |false=>exact no (by rw[hG,hk];rfl)
theorem Rs{p s r:B}(h:ek p s=some r):r.length<=s.length:=by
 unfold ek at h;cases hc:decide (p.length<=s.length)&&s.take p.length==p with
 |false=>rw[hc] at h;cases h
 |true=>rw[hc] at h;cases h;simp
theorem alS(p s:B):((ek p s).getD s).length<=s.length:=by
 cases h:ek p s with
 |none=>exact Nat.le_refl _
 |some r=>exact Rs h
theorem ao5:∀(m:Nat) (s:B) (t:List bF),s.length<=m->t.length+m<=1000000->uy 1000000 t->
  ∃(r:B) (ok:Bool) (ns:List bF),Bq ((s,((),())),(t,()))=some (((),(r,(ok,()))),(ns,()))/\r.length<=s.length/\ns.length<=1000000/\uy 1000000 ns:=by
 intro m;induction m with
 |zero=>
  intro s t hs ay ha;have:s=[]:=List.length_eq_zero_iff.1 (by omega)
  subst this;have hc:=nF 10 [] (by unfold aA;simp)
  have hc:f114 ((([]:B),(([10]:B),())),())=some ((([]:B),(([]:B),(false,()))),()):=hc;refine⟨[],false,[],cC ?_,by simp,by simp,fun x hx=>by cases hx⟩
  simp only[mB,hc,Y,bJ,ad]
 |succ m ih=>
  intro s t hs ay ha;have hc:=nF 10 s (by unfold aA;omega)
  have hc:f114 ((s,(([10]:B),())),())=_:=hc;cases aC:dK 10 s with
  |none=>
   rw[aC] at hc;refine⟨[],false,[],cC ?_,by simp,by simp,fun x hx=>by cases hx⟩
   simp only[mB,hc,Y,Option.isSome_none,bJ,ad]
  |some q=>
   obtain⟨b8,rest⟩:=q;have hl:=(jD aC).1;have hl:s.length=b8.length+1+rest.length:=by rw[hl];simp;omega
   have en:hQ 10 s=b8:=by unfold hQ;rw[aC]
   have hB:hP 10 s=rest:=by unfold hP;rw[aC]
   rw[aC,en,hB] at hc;cases he:b8==([]:B) with
   |true=>
    refine⟨rest,true,t,cC ?_,by omega,by omega,ha⟩
    simp only[mB,hc,Y,Option.isSome_some,bu,ak,he,ad]
   |false=>
    have hp:=Pe b8 [110,101,101,100,32];have hp:f168 ((b8,(([110,101,101,100,32]:B),())),())=_:=hp;have bo:=alS [110,101,101,100,32] b8;generalize(ek [110,101,101,100,32] b8).getD b8=w at hp bo;have hn:=Qt w (by omega)
    have Ez:=alR w;cases cp:(ek [110,101,101,100,32] b8).isSome&&(e0 w).isSome with
    |false=>
     refine⟨[],false,[],cC ?_,by simp,by simp,fun x hx=>by cases hx⟩
     simp only[mB,hc,Y,Option.isSome_some,bu,ak,he,hp,hn,vH];cases iA:(ek [110,101,101,100,32] b8).isSome with
     |false=>simp only[bJ,bu,ak,ad,Y]
     |true=>
      rw[iA] at cp;have cp:(e0 w).isSome=false:=cp;simp only[cp,bJ,bu,ak,ad,Y]
    |true=>
     rw[bC] at cp;have fJ:cl 40 t ([(bF.mk ((e0 w).getD iO).name ((e0 w).getD iO).kind ((e0 w).getD iO).a6)]:List bF)=some (t++[(e0 w).getD iO]):=dy (by decide) (by unfold aA;simp;omega)
     have st:mB ((s,((),())),(t,()))=some (.inl ((rest,((),())),(t++[(e0 w).getD iO],()))):=by
      simp only[mB,hc,Y,Option.isSome_some,bu,ak,he,hp,hn,vH,cp.1,cp.2,bJ,ad,fJ]
     obtain⟨r,ok,ns,g1,g2,g3,g4⟩:=ih rest (t++[(e0 w).getD iO]) (by omega) (by simp;omega) (fun x hx=>by
      rcases bp.1 hx with hx|hx
      ·exact ha x hx
      ·rw[List.mem_singleton.1 hx];exact⟨by omega,by omega⟩)
     exact⟨r,ok,ns,(d' st).trans g1,by omega,g3,g4⟩
theorem ao4:∀(ns t:List bF) (r:B),(∀n,n∈ns->dR n=true)->t.length+ns.length<=1000->(ns.flatMap cL++10::r).length<=1000000->
  Bq ((ns.flatMap cL++10::r,((),())),(t,()))=some (((),(r,(true,()))),(t++ns,())):=by
 intro ns;induction ns with
 |nil=>
  intro t r _ _ hs;have hc:=nF 10 (10::r) (by unfold aA;simp at hs ⊢;omega)
  have en:hQ 10 (10::r)=[]:=by unfold hQ;rw[J3]
  have hB:hP 10 (10::r)=r:=by unfold hP;rw[J3]
  rw[en,hB,J3] at hc;have hc:f114 ((10::r,(([10]:B),())),())=some ((([]:B),(r,(true,()))),()):=hc;have he:(([]:B)==([]:B))=true:=rfl;rw[List.append_nil];refine cC ?_
  show mB ((10::r,((),())),(t,()))=_;simp only[mB,hc,Y,bu,ak,he,ad]
 |cons n ns ih=>
  intro t r h ay hs;have hk:=h n ci;have gl:=ajs (n:=n) (ns:=ns) (r:=10::r) hk;generalize eZ:(n::ns).flatMap cL++10::r=s at hs gl;have hc:=nF 10 s (by unfold aA;omega)
  have hl:=(jD gl).1;have hl:s.length=(gh++32::cX n).length+1+(ns.flatMap cL++10::r).length:=by rw[hl];simp;omega
  have en:hQ 10 s=gh++32::cX n:=by unfold hQ;rw[gl]
  have hB:hP 10 s=ns.flatMap cL++10::r:=by unfold hP;rw[gl]
  rw[en,hB,gl] at hc;have hc:f114 ((s,(([10]:B),())),())=some ((gh++32::cX n,(ns.flatMap cL++10::r,(true,()))),()):=hc;have he:((gh++32::cX n)==([]:B))=false:=rfl;have aa:ek [110,101,101,100,32] (gh++32::cX n)=some (cX n):=vJ [110,101,101,100,32] (cX n);have hp:=Pe (gh++32::cX n) [110,101,101,100,32];rw[aa] at hp;have hp:f168 ((gh++32::cX n,(([110,101,101,100,32]:B),())),())=some ((cX n,(true,())),()):=hp;have hn:=Qt (cX n) (by simp[gh] at hl;omega)
  rw[alQ hk] at hn;have hn:f169 ((cX n,()),())=some (((),(true,())),((n.name,(n.kind,(n.a6,()))),())):=hn;have fJ:cl 40 t ([(bF.mk n.name n.kind n.a6)]:List bF)=some (t++[n]):=dy (by decide) (by unfold aA;simp;simp at ay;omega)
  have st:mB ((s,((),())),(t,()))=some (.inl ((ns.flatMap cL++10::r,((),())),(t++[n],()))):=by
   simp only[mB,hc,Y,bu,ak,he,hp,hn,vH,bJ,ad,fJ]
  have:=ih (t++[n]) r (fun x hx=>h x (cf _ hx)) (by simp at ay ⊢;omega) (by omega)
  rw[List.append_assoc] at this;exact(d' st).trans this
theorem aeX(s:B)(hs:s.length<=1000000):∃(r:B) (ok:Bool) (ns:List bF),f117 ((s,()),())=some (((),(r,(ok,()))),(ns,()))/\r.length<=s.length/\ns.length<=1000000/\uy 1000000 ns:=by
 obtain⟨r,ok,ns,g1,g2⟩:=ao5 s.length s [] (Nat.le_refl _) (by simpa using hs) (fun x hx=>by cases hx)
 exact⟨r,ok,ns,by simp only[f117,g1,Y],g2⟩
theorem aeW(ns:List bF)(r:B)(h:∀n,n∈ns->dR n=true)(hl:ns.length<=1000)(hs:(ns.flatMap cL++10::r).length<=1000000):
  f117 ((ns.flatMap cL++10::r,()),())=some (((),(r,(true,()))),(ns,())):=by
 have g1:=ao4 ns [] r h (by simpa using hl) hs
 simp only[f117,g1,Y,List.nil_append]
noncomputable abbrev aAf:a8:=[(36,NM),(55,EO),(114,xy),(116,aaH),(117,aaG),(118,aaF)]
theorem adW:aT O (aZ af aAf):=aY ⟨abn,Mq,Du,z116,z117,atf,⟨⟩⟩
abbrev QP:Shape:=⟨[am 0,ax 2 2 0,ax 11 11 0,ar 14],[bv 5000130 .need 2 2,bv 5000131 .entry 2 3,aw 2 [ah,ah,.own 5000130,.own 5000131],bv 5000706 .need 11 2,bv 5000707 .entry 11 3,aw 11 [ah,ah,.own 5000706,.own 5000707]],76⟩
abbrev Qw:List aR:=[(.norm,⟨[ax 2 2 0,ax 11 11 0,ar 73],[bv 5000130 .need 2 2,bv 5000131 .entry 2 3,aw 2 [ah,ah,.own 5000130,.own 5000131],bv 5000706 .need 11 2,bv 5000707 .entry 11 3,aw 11 [ah,ah,.own 5000706,.own 5000707]],76⟩)]
noncomputable def qR(y:QP.J):Option (aG Qw):=
 bif(!(!y.1.2.2.2.1)) then
(f55 (((y.2.2.2.2.2.2.1.1,y.2.2.2.2.2.2.1.2.1,y.2.2.2.2.1,y.2.2.2.2.2.1,()),()),())).bind fun a=>
 bif(!(!a.1.1)) then
(f36 (((y.2.2.2.2.2.2.1.1,y.2.2.2.2.2.2.1.2.1,y.2.2.2.2.1,y.2.2.2.2.2.1,()),()),())).bind fun b=>
 some (((),(),(!(b.1.1==y.1.1)),()),y.2.1,y.2.2.1,(y.2.2.2.1.1,y.2.2.2.1.2.1,(),(),()),y.2.2.2.2.1,y.2.2.2.2.2.1,(y.2.2.2.2.2.2.1.1,y.2.2.2.2.2.2.1.2.1,(),(),()),())
else
 some (((),(),true,()),y.2.1,y.2.2.1,(y.2.2.2.1.1,y.2.2.2.1.2.1,(),(),()),y.2.2.2.2.1,y.2.2.2.2.2.1,(y.2.2.2.2.2.2.1.1,y.2.2.2.2.2.2.1.2.1,(),(),()),())
else
 some (((),(),true,()),y.2.1,y.2.2.1,(y.2.2.2.1.1,y.2.2.2.1.2.1,(),(),()),y.2.2.2.2.1,y.2.2.2.2.2.1,(y.2.2.2.2.2.2.1.1,y.2.2.2.2.2.2.1.2.1,(),(),()),())
theorem aiZ:aV O (ap (codeOf Tryz.f67) 1 16380) (aX QP Qw qR):=cm adW (by kernel_rfl) ag fun y=>by kernel_rfl
abbrev i67:Shape:=⟨[am 0],[],76⟩
abbrev xN:Shape:=⟨[ax 2 2 0,ar 3],[bv 5000130 .need 2 2,bv 5000131 .entry 2 3,aw 2 [ah,ah,.own 5000130,.own 5000131]],76⟩
noncomputable def f67(a:i67.J):Option xN.J:=
 bif(decide ((a.1.1.length:Int)>(4000:Int))) then
 some (((),false,()),([]:List bF),([]:List aB),(([]:B),([]:B),(),(),()),())
else
(f114 ((a.1.1,([10]:B),()),())).bind fun b=>
(f114 ((b.1.2.1,([10]:B),()),())).bind fun c=>
(f116 ((c.1.1,([32]:B),()),())).bind fun d=>
 bif((d.1.1.length:Int) !=(3:Int)) then
 some (((),false,()),([]:List bF),([]:List aB),(([]:B),([]:B),(),(),()),())
else
(aS d.1.1 (1:Int)).bind fun e=>
(aS d.1.1 (2:Int)).bind fun f=>
(f117 ((c.1.2.1,()),())).bind fun g=>
 bif(!g.1.2.2.1) then
 some (((),false,()),([]:List bF),([]:List aB),(([]:B),([]:B),(),(),()),())
else
(f118 ((g.1.2.1,()),())).bind fun h=>
(qR ((a.1.1,(),(),h.1.2.1,()),([]:List bF),([]:List aB),(([]:B),([]:B),(),(),()),g.2.1,h.2.1,(e,f,(),(),()),())).bind fun i=>
 bif i.1.2.2.1 then
 some (((),false,()),([]:List bF),([]:List aB),(([]:B),([]:B),(),(),()),())
else
 some (((),true,()),i.2.2.2.2.1,i.2.2.2.2.2.1,(i.2.2.2.2.2.2.1.1,i.2.2.2.2.2.2.1.2.1,(),(),()),())
noncomputable def adx:aH:=aL af Tryz.f67 i67 xN [] f67
theorem awW:aE O 67 adx:=aM adW Tryz.func67 (by kernel_rfl) (a7 aiZ ag) (fun y=>by kernel_rfl) fun a=>by kernel_rfl
theorem Fu{aD:Type}(f:aD->B):∀{xs:List aD} {x:aD},x∈xs->(f x).length<=(xs.flatMap f).length:=by
 intro xs;induction xs with
 |nil=>intro x h;cases h
 |cons y bm ih=>
  intro x h;rw[List.flatMap_cons,dx];rcases bO.1 h with rfl|h
  ·omega
  ·have:=ih h;omega
theorem ajE{e:aB}(h:e7 e=true):e.path.length<=(eo e).length/\e.text.length<=(eo e).length:=by
 have hc:=Gj (Q7 h []);rw[List.append_nil] at hc;exact⟨hc.1,hc.2.1⟩
theorem y_(p:aK):(dJ p).length<=(bD p).length/\p.name.length+p.a6.length+(p.bl.flatMap cL++10::dt p.bI).length+10<=(dJ p).length+10/\(dt p.bI).length<=(dJ p).length/\(p.bl.flatMap cL).length<=(dJ p).length:=by
 have h1:(bD p).length=(e8 p).length+1+(dJ p).length:=by rw[v6];simp;omega
 have h2:(dJ p).length=(et p).length+1+(jh p).length:=by rw[vR];simp;omega
 have h3:(et p).length=4+1+(p.name.length+1+p.a6.length):=by unfold et;simp[lX,iX];omega
 have aF:(jh p).length=(p.bl.flatMap cL).length+1+(dt p.bI).length:=by unfold jh;rw[dx,cW];omega
 have bo:(p.bl.flatMap cL++10::dt p.bI).length=(jh p).length:=rfl;omega
theorem JZ{p:aK}(hk:cx p=true)(hl:(bD p).length<=4000):jX p:=by
 obtain⟨h1,h2,h3,aF,_,cp⟩:=nq hk;obtain⟨q1,q2,ec,nk⟩:=y_ p;refine⟨by show p.name.length<=2097152;omega,by show p.a6.length<=2097152;omega,⟨by show p.bl.length<=2097152;omega,fun n hn=>?_⟩,⟨by show p.bI.length<=2097152;have:=j3 cp;omega,fun e he=>?_⟩⟩
 ·have h:=Fu cL hn;have jc:(cL n).length=(cX n).length+6:=by unfold cL;simp
  have hp:n.name.length+n.a6.length<=(cX n).length:=by unfold cX;simp
  exact⟨by show n.name.length<=2097152;omega,by show n.a6.length<=2097152;omega⟩
 ·have h:=Fu eo he;have h:(eo e).length<=(dt p.bI).length:=h;have:=ajE (vu cp e he);exact⟨by show e.path.length<=2097152;omega,by show e.text.length<=2097152;omega⟩
abbrev sI(p:aK):xN.J:=(((),(true,())),(p.bl,(p.bI,((p.name,(p.a6,((),((),())))),()))))
abbrev Oq:xN.J:=(((),(false,())),(([]:List bF),(([]:List aB),((([]:B),(([]:B),((),((),())))),()))))
theorem aqg{p q:aK}(h:sI p=sI q):p=q:=by
 obtain⟨a,b,c,d⟩:=p;obtain⟨c_,bQ,fM,aey⟩:=q;simp only[sI,Prod.mk.injEq] at h;obtain⟨_,rfl,rfl,⟨rfl,rfl,_⟩,_⟩:=h;rfl
theorem Fj{p:aK}(hk:cx p=true)(hl:(bD p).length<=4000):f67 ((bD p,()),())=some (sI p):=by
 have hb:=JZ hk hl;obtain⟨h1,h2,h3,aF,_,cp⟩:=nq hk;obtain⟨q1,q2,ec,nk⟩:=y_ p;have d:decide (((bD p).length:Int)>4000)=false:=decide_eq_false (by omega)
 have c1:=nF 10 (bD p) (by unfold aA;omega)
 have a1:hP 10 (bD p)=dJ p:=by unfold hP;rw[alq]
 rw[a1] at c1;have c1:f114 ((bD p,(([10]:B),())),())=_:=c1;have c2:=nF 10 (dJ p) (by unfold aA;omega)
 have a2:hP 10 (dJ p)=jh p:=by unfold hP;rw[Ry hk]
 have a3:hQ 10 (dJ p)=et p:=by unfold hQ;rw[Ry hk]
 rw[a2,a3] at c2;have c2:f114 ((dJ p,(([10]:B),())),())=_:=c2;have bU:(et p).length<=(dJ p).length:=by rw[vR];simp
 have c3:=Qs (et p) (by omega)
 rw[FD hk] at c3;have je:(((([iX,p.name,p.a6]:List B).length:Nat):Int) !=3)=false:=rfl;have eC:aS [iX,p.name,p.a6] (1:Int)=some p.name:=rfl;have gn:aS [iX,p.name,p.a6] (2:Int)=some p.a6:=rfl;have dv:=aeW p.bl (dt p.bI) h3 (by omega) (by omega)
 have dv:f117 ((jh p,()),())=_:=dv;have hA:=ae6 p.bI cp (by omega) hb.2.2.2
 have c6:=zh (((p.name,(p.a6,(p.bl,(p.bI,())))),()),()) hb;have c6:f55 (((p.name,(p.a6,(p.bl,(p.bI,())))),()),())=some ((cx p,()),()):=c6;have qH:=FH p hb;rw[hk] at c6 qH;simp only[f67,d,ak,c1,c2,c3,je,eC,gn,dv,hA,Y,bu,bJ,qR,ad,c6,qH,beq_self_eq_true]
theorem ae4(s:B)(hs:aA s.length):f67 ((s,()),())=some Oq\/∃p:aK,f67 ((s,()),())=some (sI p)/\cx p=true/\bD p=s/\s.length<=4000:=by
 by_cases hl:s.length<=4000
 ·have d:decide ((s.length:Int)>4000)=false:=decide_eq_false (by omega)
  have aBD:∀t:B,(hQ 10 t).length<=t.length:=fun t=>by
   unfold hQ;cases h:dK 10 t with
   |none=>exact Nat.le_refl _
   |some q=>obtain⟨x,y⟩:=q;have:=(jD h).1;show x.length<=_;rw[this];simp
  have aeo:∀t:B,(hP 10 t).length<=t.length:=fun t=>by
   unfold hP;cases h:dK 10 t with
   |none=>show 0<=_;omega
   |some q=>obtain⟨x,y⟩:=q;have:=(jD h).1;show y.length<=_;rw[this];simp;omega
  have c1:=nF 10 s hs;have c1:f114 ((s,(([10]:B),())),())=_:=c1;have ed:=aeo s;generalize hP 10 s=b at c1 ed;have c2:=nF 10 b (by unfold aA;omega)
  have c2:f114 ((b,(([10]:B),())),())=_:=c2;have fU:=aeo b;have vd:=aBD b;generalize hP 10 b=r at c2 fU;generalize hQ 10 b=aa at c2 vd;have c3:=Qs aa (by omega)
  have m3:∀w,w∈bN 32 aa->w.length<=aa.length:=fun w hw=>by
   rw[<-y2 32 aa.length aa (Nat.le_refl _)] at hw;exact qM 32 _ aa w hw
  generalize bN 32 aa=ws at c3 m3;cases je:(((ws.length:Nat):Int) !=3) with
  |true=>
   refine .inl ?_
   simp only[f67,d,ak,c1,c2,c3,je,ad,Y]
  |false=>
   obtain⟨U,bW,vs,rfl⟩:∃U bW vs,ws=[U,bW,vs]:=by
    have:ws.length=3:=by simp at je;omega
    match ws,this with
    |[a,b,c],_=>exact⟨a,b,c,rfl⟩
   have eC:aS [U,bW,vs] (1:Int)=some bW:=rfl;have gn:aS [U,bW,vs] (2:Int)=some vs:=rfl;have aI:=m3 bW (by simp)
   have aJ:=m3 vs (by simp)
   obtain⟨eY,ok,ns,dv,cY,gq,iT⟩:=aeX r (by omega)
   obtain⟨MC,t,hA,pq,og⟩:=ae7 eY (by omega)
   cases ok with
   |false=>
    refine .inl ?_
    simp only[f67,d,ak,c1,c2,c3,je,eC,gn,dv,ad,Y,bJ]
   |true=>
    cases MC with
    |false=>
     refine .inl ?_
     simp only[f67,d,ak,c1,c2,c3,je,eC,gn,dv,hA,ad,Y,bJ,bu,qR]
    |true=>
     have hb:jX ⟨bW,vs,ns,t⟩:=⟨by show bW.length<=2097152;omega,by show vs.length<=2097152;omega,⟨by show ns.length<=2097152;omega,fun n hn=>by have:=iT n hn;exact⟨by show n.name.length<=2097152;omega,by show n.a6.length<=2097152;omega⟩⟩,⟨by show t.length<=2097152;omega,fun e he=>by have:=og e he;exact⟨by show e.path.length<=2097152;omega,by show e.text.length<=2097152;omega⟩⟩⟩
     have c6:=zh (((bW,(vs,(ns,(t,())))),()),()) hb;have c6:f55 (((bW,(vs,(ns,(t,())))),()),())=some ((cx ⟨bW,vs,ns,t⟩,()),()):=c6;have qH:=FH ⟨bW,vs,ns,t⟩ hb;have qH:f36 (((bW,(vs,(ns,(t,())))),()),())=_:=qH;cases hk:cx ⟨bW,vs,ns,t⟩ with
     |false=>
      rw[hk] at c6;refine .inl ?_
      simp only[f67,d,ak,c1,c2,c3,je,eC,gn,dv,hA,ad,Y,bJ,bu,qR,c6]
     |true=>
      rw[hk] at c6 qH;cases he:bD ⟨bW,vs,ns,t⟩==s with
      |false=>
       refine .inl ?_
       simp only[f67,d,ak,c1,c2,c3,je,eC,gn,dv,hA,ad,Y,bJ,bu,qR,c6,qH,he]
      |true=>
       refine .inr ⟨⟨bW,vs,ns,t⟩,?_,hk,eq_of_beq he,hl⟩;simp only[f67,d,ak,c1,c2,c3,je,eC,gn,dv,hA,ad,Y,bJ,bu,qR,c6,qH,he]
 ·have d:decide ((s.length:Int)>4000)=true:=decide_eq_true (by omega)
  refine .inl ?_
  simp only[f67,d,ad]
def acz(s:B)(p:aK):Prop:=cx p=true/\bD p=s/\s.length<=4000
def aBP(D:Option aK):xN.J:=match D with|some p=>sI p|none=>Oq
theorem ahd(s:B)(hs:aA s.length):∃D:Option aK,f67 ((s,()),())=some (aBP D)/\mG D (acz s):=by
 rcases ae4 s hs with h|⟨p,h,h1,h2,h3⟩
 ·refine⟨none,h,fun p=>⟨fun hp=>(by cases hp),fun⟨q1,q2,ec⟩=>?_⟩⟩
  subst q2;have:=Fj q1 ec;rw[h] at this;simp only[bE,Prod.mk.injEq] at this;exact absurd this.1.2.1 (by decide)
 ·refine⟨some p,h,fun q=>⟨fun hp=>?_,fun⟨q1,q2,ec⟩=>?_⟩⟩
  ·cases hp;exact⟨h1,h2,h3⟩
  ·subst q2;have:=Fj q1 ec;rw[h] at this;rw[aqg (Option.some.inj this)]
noncomputable abbrev aAg:a8:=[(114,xy),(115,DU)]
theorem adX:aT O (aZ af aAg):=aY ⟨Du,K1,⟨⟩⟩
abbrev U8:Shape:=⟨[am 2,am 3,ar 4,am 6,ar 7,aj 8,ar 9],[],35⟩
abbrev US:List aR:=[(.norm,⟨[am 2,am 3,ar 4,am 6,aj 8,ar 28],[],35⟩)]
noncomputable def wG(y:U8.J):Option (aG US):=
 bif(!(!y.1.2.2.2.2.1)) then
 some ((y.1.1,y.1.2.1,y.1.2.2.1,y.1.2.2.2.1,y.1.2.2.2.2.2.1,(!y.1.2.2.2.2.2.2.1),()),())
else
 some ((y.1.1,y.1.2.1,y.1.2.2.1,y.1.2.2.2.1,y.1.2.2.2.2.2.1,true,()),())
theorem app:aV O (ap (codeOf Tryz.f66) 1 60) (aX U8 US wG):=cm adX (by kernel_rfl) ag fun y=>by kernel_rfl
abbrev i66:Shape:=⟨[am 0],[],35⟩
abbrev abT:Shape:=⟨[am 2,am 3,ar 4],[],35⟩
noncomputable def f66(a:i66.J):Option abT.J:=
(f114 ((a.1.1,([10]:B),()),())).bind fun b=>
(f115 ((b.1.1,(b.1.2.1.length:Int),()),())).bind fun c=>
(wG ((([]:B),([]:B),false,b.1.2.1,b.1.2.2.1,c.1.1,c.1.2.1,()),())).bind fun d=>
 bif d.1.2.2.2.2.2.1 then
 some ((([]:B),([]:B),false,()),())
else
(bq d.1.2.2.2.1 (0:Int) d.1.2.2.2.2.1).bind fun e=>
(bq d.1.2.2.2.1 d.1.2.2.2.2.1 (d.1.2.2.2.1.length:Int)).bind fun f=>
 some ((e,f,true,()),())
noncomputable def NJ:aH:=aL af Tryz.f66 i66 abT [] f66
theorem abk:aE O 66 NJ:=aM adX Tryz.func66 (by kernel_rfl) (a7 app ag) (fun y=>by kernel_rfl) fun a=>by kernel_rfl
theorem amq(t:B)(b:UInt8):du (t++[b])=eA (du t) b:=by unfold du;rw[List.foldl_append];rfl
theorem amo:∀{s:B},s.all c7=true->s≠[]->iF s=false->s.length≠1->1<=du s:=by
 intro s aa hn hl h1;have key:∀(s:B) (n:Int),s.all c7=true->1<=n->1<=s.foldl eA n:=by
  intro s;induction s with
  |nil=>intro n _ h;exact h
  |cons b s ih=>
   intro n aa hn;simp only[List.all_cons,bC] at aa;have hb:=jf aa.1;refine ih _ aa.2 ?_
   unfold eA;omega
 match s,aa,hn,hl,h1 with
 |[],_,hn,_,_=>exact absurd rfl hn
 |[b],_,_,_,h1=>exact absurd rfl h1
 |b::c::r,aa,_,hl,_=>
  have hl:((b.toNat:Int)==48)=false:=hl;have hb:=aa;rw[List.all_cons,bC] at hb;have fh:=jf hb.1;have hne:(b.toNat:Int)≠48:=by simpa using hl
  show 1<=(c::r).foldl eA (eA 0 b);exact key _ _ hb.2 (by unfold eA;omega)
theorem ah3:∀(k:Nat) (s:B),s.length=k->s.all c7=true->s≠[]->iF s=false->∃n:Nat,du s=(n:Int)/\Lib.decDigits n=s:=by
 intro k;induction k with
 |zero=>intro s h _ hn _;exact absurd (List.length_eq_zero_iff.1 h) hn
 |succ k ih=>
  intro s h aa hn hl;obtain⟨t,b,rfl⟩:∃t b,s=t++[b]:=⟨s.dropLast,s.getLast hn,(List.dropLast_concat_getLast hn).symm⟩;have hk:t.length=k:=by simpa using h
  rw[List.all_append,bC] at aa;have hb1:c7 b=true:=by have:=aa.2;simpa using this
  have fh:=jf hb1;cases t with
  |nil=>
   refine⟨b.toNat-48,?_,?_⟩
   ·show eA 0 b=_;unfold eA;omega
   ·rw[Lib.decDigits,dif_pos (by omega)]
    show [_]=[b];congr 1
    apply UInt8.toNat_inj.1;rw[UInt8.toNat_ofNat'];omega
  |cons c r=>
   have hlt:iF (c::r)=false:=by
    cases r with
    |nil=>rfl
    |cons d r=>exact hl
   obtain⟨n,h1,h2⟩:=ih (c::r) hk aa.1 (by simp) hlt
   have hp:1<=n:=by
    cases r with
    |nil=>
     have qz:((c.toNat:Int)==48)=false:=hl;have qz:(c.toNat:Int)≠48:=by simpa using qz
     have hc:=jf (by have:=aa.1;simpa using this:c7 c=true)
     have:eA 0 c=(n:Int):=h1;unfold eA at this;omega
    |cons d r=>
     have:=amo aa.1 (by simp) hlt (by simp)
     omega
   refine⟨n*10+(b.toNat-48),?_,?_⟩
   ·rw[amq,h1];unfold eA;omega
   ·rw[Lib.decDigits,dif_neg (by omega),show(n*10+(b.toNat-48))/10=n by omega,h2,show(n*10+(b.toNat-48))%10=b.toNat-48 by omega]
    congr 2
    apply UInt8.toNat_inj.1;rw[UInt8.toNat_ofNat'];omega
theorem Q_{m:Int}{s:B}(h:fD m s=true):∃n:Nat,du s=(n:Int)/\s=Lib.itoa (n:Int)/\(n:Int)<=m:=by
 have h0:=h;unfold fD at h;simp only[bC,dY,Bool.not_eq_true'] at h;obtain⟨⟨⟨⟨h1,h2⟩,h3⟩,_⟩,bo⟩:=h;obtain⟨n,e1,e2⟩:=ah3 s.length s rfl h1 (by simpa using h2) h3
 exact⟨n,e1,by rw[ox,e2],by omega⟩
def ji(s:B):Option (B×B):=match dK 10 s with
 |some (b8,r)=>bif fD (r.length:Int) b8 then some (r.take (du b8).toNat,r.drop (du b8).toNat) else none
 |none=>none
theorem Fw(s:B)(hs:aA s.length):f66 ((s,()),())=some ((((ji s).getD ([],[])).1,(((ji s).getD ([],[])).2,((ji s).isSome,()))),()):=by
 have c1:=nF 10 s hs;have c1:f114 ((s,(([10]:B),())),())=_:=c1;cases aC:dK 10 s with
 |none=>
  have hz:ji s=none:=by unfold ji;rw[aC]
  have en:hQ 10 s=s:=by unfold hQ;rw[aC]
  have n1:=zf s ((hP 10 s).length:Int) hs;rw[aC,en] at c1;simp only[f66,c1,Y,n1,wG,Option.isSome_none,bJ,bu,ak,ad,hz];rfl
 |some q=>
  obtain⟨b8,r⟩:=q;have hl:=(jD aC).1;have hl:s.length=b8.length+1+r.length:=by rw[hl];simp;omega
  have en:hQ 10 s=b8:=by unfold hQ;rw[aC]
  have hB:hP 10 s=r:=by unfold hP;rw[aC]
  rw[aC,en,hB] at c1;have n1:=zf b8 (r.length:Int) (by unfold aA at hs ⊢;omega)
  have hz:ji s=bif fD (r.length:Int) b8 then some (r.take (du b8).toNat,r.drop (du b8).toNat) else none:=by unfold ji;rw[aC]
  cases hg:fD (r.length:Int) b8 with
  |false=>
   rw[hg] at hz n1;simp only[f66,c1,Y,n1,wG,Option.isSome_some,bJ,bu,ak,ad,hz];rfl
  |true=>
   rw[hg] at hz n1;obtain⟨n,h1,_,h3⟩:=Q_ hg;rw[h1] at hz n1;have s1:bq r 0 (n:Int)=some (r.take n):=gw (by omega)
   have s2:bq r (n:Int) ((r.length:Nat):Int)=some (r.drop n):=fO (by omega)
   simp only[f66,c1,Y,n1,wG,Option.isSome_some,bJ,bu,ak,ad,s1,s2,hz];rfl
theorem y9{s x y:B}(h:ji s=some (x,y)):s=cS x++y/\y.length<s.length:=by
 unfold ji at h;cases aC:dK 10 s with
 |none=>rw[aC] at h;cases h
 |some q=>
  obtain⟨b8,r⟩:=q;rw[aC] at h;have hs:=(jD aC).1;have h:(bif fD (r.length:Int) b8 then some (r.take (du b8).toNat,r.drop (du b8).toNat) else none)=some (x,y):=h
  cases hg:fD (r.length:Int) b8 with
  |false=>rw[hg] at h;cases h
  |true=>
   rw[hg] at h;obtain⟨n,h1,h2,h3⟩:=Q_ hg;simp only[ad,bE,Prod.mk.injEq,h1,Int.toNat_natCast] at h;obtain⟨rfl,rfl⟩:=h;have hlen:(r.take n).length=n:=by simp;omega
   refine⟨?_,?_⟩
   ·unfold cS;rw[hlen,<-h2,hs];simp
   ·rw[hs];simp;omega
theorem zA(x y:B)(iz:x.length<1000000000):ji (cS x++y)=some (x,y):=by
 unfold ji;rw[zm];obtain⟨g1,g2⟩:=Hf (n:=x.length) (m:=((x++y).length:Int)) (by simp;omega) iz
 show(bif fD ((x++y).length:Int) (Lib.itoa (x.length:Int)) then _ else _)=_
 rw[g1,g2];simp
noncomputable abbrev aAy:a8:=[(43,yl),(66,NJ),(67,adx)]
theorem NV:aT O (aZ af aAy):=aY ⟨D8,abk,awW,⟨⟩⟩
abbrev Sf:Shape:=⟨[ax 2 2 0,bd 4 3000256,am 6,am 7,ar 8],[bv 5000128 .pack 2 0,aw 2 [.own 5000128],bc 3000256 .pack 4 0],48⟩
abbrev RX:List aR:=[(.norm,⟨[ax 2 2 0,bd 4 3000256,am 6,am 7,ar 26],[bv 5000128 .pack 2 0,aw 2 [.own 5000128],bc 3000256 .pack 4 0],48⟩)]
noncomputable def q4(y:Sf.J):Option (aG RX):=
 bif(!(!y.1.2.2.2.2.1)) then
 some (((),(),y.1.2.2.1,y.1.2.2.2.1,((y.2.2.2.1.length:Int)==(5:Int)),()),y.2.1,((),()),y.2.2.2.1,())
else
 some (((),(),y.1.2.2.1,y.1.2.2.2.1,true,()),y.2.1,((),()),y.2.2.2.1,())
theorem akX:aV O (ap (di (ap (codeOf Tryz.f35) 1 60)) 120 3860) (aX Sf RX q4):=cm NV (by kernel_rfl) ag fun y=>by kernel_rfl
abbrev Cn:Shape:=⟨[ax 2 2 0,bd 4 3000256,am 5],[bv 5000128 .pack 2 0,aw 2 [.own 5000128],bc 3000256 .pack 4 0],48⟩
abbrev JW:List aR:=[(.ret,⟨[ax 2 2 0,ar 3],[bv 5000128 .pack 2 0,aw 2 [.own 5000128]],48⟩),(.exit 0,⟨[ax 2 2 0,bd 4 3000256],[bv 5000128 .pack 2 0,aw 2 [.own 5000128],bc 3000256 .pack 4 0],48⟩)]
noncomputable def pU(y:Cn.J):bP Cn JW:=
 bif(!(y.1.2.2.1==([]:B))) then
(f66 ((y.1.2.2.1,()),())).bind fun a=>
(q4 (((),(),a.1.1,a.1.2.1,a.1.2.2.1,()),y.2.1,((),()),y.2.2.2.1,())).bind fun b=>
 bif b.1.2.2.2.2.1 then
 some (.inr (.inl (((),false,()),([]:List aK),((),()),())))
else
(f67 ((b.1.2.2.1,()),())).bind fun c=>
 bif(!c.1.2.1) then
 some (.inr (.inl (((),false,()),([]:List aK),((),()),())))
else
(cl 80 b.2.2.2.1 ([(aK.mk c.2.2.2.1.1 c.2.2.2.1.2.1 c.2.1 c.2.2.1)]:List aK)).bind fun d=>
 some (.inl (((),(),b.1.2.2.2.1,()),b.2.1,((),()),d,()))
else
 some (.inr (.inr (((),(),()),y.2.1,((),()),y.2.2.2.1,())))
noncomputable def wD:Cn.J->Option (aG JW):=bA pU
theorem apz:aV O (ap (codeOf Tryz.f35) 1 60) (aX Cn JW wD):=bR NV (by kernel_rfl) (a7 akX ag) fun y=>by kernel_rfl
abbrev i35:Shape:=⟨[am 0],[],48⟩
abbrev xP:Shape:=⟨[ax 2 2 0,ar 3],[bv 5000128 .pack 2 0,aw 2 [.own 5000128]],48⟩
noncomputable def f35(a:i35.J):Option xP.J:=
(wD (((),(),a.1.1,()),([]:List aK),((),()),([]:List aK),())).bind fun b=>
(match b with
|.inl c=>
 some (((),c.1.2.1,()),c.2.1,((),()),())
|.inr d=>
(f43 (((d.2.2.2.1,()),()),())).bind fun e=>
 bif(!e.1.1) then
 some (((),false,()),([]:List aK),((),()),())
else
 some (((),true,()),d.2.2.2.1,((),()),()))
noncomputable def NN:aH:=aL af Tryz.f35 i35 xP [] f35
theorem abo:aE O 35 NN:=aM NV Tryz.func35 (by kernel_rfl) (a7 apz ag) (fun y=>by kernel_rfl) fun a=>by kernel_rfl
noncomputable abbrev aAL:a8:=[(35,NN)]
theorem aBa:aT O (aZ af aAL):=aY ⟨abo,⟨⟩⟩
abbrev i14:Shape:=⟨[ck 0 [ah,ah]],[],17⟩
abbrev Ej:Shape:=⟨[ar 2],[],17⟩
noncomputable def f14(a:i14.J):Option Ej.J:=
(f35 ((a.1.1.1,()),())).bind fun b=>
 bif b.1.2.1 then
 some (((a.1.1.2.1==([]:B)),()),())
else
 some ((false,()),())
noncomputable def qE:aH:=aL af Tryz.f14 i14 Ej [] f14
theorem xG:aE O 14 qE:=aM aBa Tryz.func14 (by kernel_rfl) ag (fun y=>by kernel_rfl) fun a=>by kernel_rfl
abbrev qd(ps:List aK):Prop:=∀p,p∈ps->cx p=true/\(bD p).length<=4000
def nZ(s:B)(ps:List aK):Prop:=eE ps=true/\ce ps=s/\qd ps
abbrev Oo(ps:List aK):xP.J:=(((),(true,())),(ps,(((),()),())))
abbrev ND:xP.J:=(((),(false,())),(([]:List aK),(((),()),())))
def azM(D:Option (List aK)):xP.J:=match D with|some ps=>Oo ps|none=>ND
theorem we{ps:List aK}(h:qd ps)(hl:ps.length<=6):fu ps/\j2 ps:=by
 refine⟨⟨by show ps.length<=2097152;omega,fun p hp=>JZ (h p hp).1 (h p hp).2⟩,fun p hp=>?_⟩
 obtain⟨hk,aC⟩:=h p hp;obtain⟨q1,q2,ec,nk⟩:=y_ p;refine⟨by omega,fun n hn=>?_⟩
 have h:=Fu cL hn;have jc:(cL n).length=(cX n).length+6:=by unfold cL;simp
 have hp:n.name.length+n.a6.length<=(cX n).length:=by unfold cX;simp
 omega
theorem vC(p:aK)(ps:List aK):ce (p::ps)=cS (bD p)++ce ps:=by unfold ce;rw[List.flatMap_cons]
theorem ao7:∀(m:Nat) (s:B) (ps:List aK),s.length<=m->m<=1000000000->ps.length<=5->
  wD (((),((),(s,()))),(([]:List aK),(((),()),(ps,()))))=some (.inl ND)\/
  ∃qs:List aK,wD (((),((),(s,()))),(([]:List aK),(((),()),(ps,()))))=some (.inr (((),((),())),(([]:List aK),(((),()),(ps++qs,())))))/\ce qs=s/\qd qs/\(ps++qs).length<=5:=by
 intro m;induction m with
 |zero=>
  intro s ps hs _ hl;have:s=[]:=List.length_eq_zero_iff.1 (by omega)
  subst this;exact .inr ⟨[],by rw[List.append_nil];exact cC rfl,rfl,fun p hp=>(by cases hp),by simpa using hl⟩
 |succ m ih=>
  intro s ps hs hm hl;cases s with
  |nil=>exact .inr ⟨[],by rw[List.append_nil];exact cC rfl,rfl,fun p hp=>(by cases hp),by simpa using hl⟩
  |cons b iR=>
   have hne:((b::iR)==([]:B))=false:=rfl;generalize eZ:b::iR=s at hs hne;have z:=Fw s (by unfold aA;omega)
   cases hz:ji s with
   |none=>
    rw[hz] at z;refine .inl (cC ?_);simp only[pU,hne,bJ,ad,z,Y,Option.isSome_none,q4,bu,ak]
   |some q=>
    obtain⟨x,y⟩:=q;obtain⟨aI,aJ⟩:=y9 hz;rw[hz] at z;have z:f66 ((s,()),())=some ((x,(y,(true,()))),()):=z;by_cases bo:ps.length=5
    ·refine .inl (cC ?_);have d:(((ps.length:Nat):Int)==5)=true:=by rw[beq_iff_eq];omega
     simp only[pU,hne,bJ,ad,z,Y,q4,bu,ak,d]
    ·have d:(((ps.length:Nat):Int)==5)=false:=by rw[beq_eq_false_iff_ne];omega
     have hx:x.length<=s.length:=by rw[aI];unfold cS;simp;omega
     obtain⟨D,g1,g2⟩:=ahd x (by unfold aA;omega)
     cases D with
     |none=>
      have g1:f67 ((x,()),())=some Oq:=g1;refine .inl (cC ?_);simp only[pU,hne,bJ,ad,z,Y,q4,bu,ak,d,g1]
     |some p=>
      have g1:f67 ((x,()),())=some (sI p):=g1;obtain⟨iS,jx,p3⟩:=(g2 p).1 rfl;have fJ:cl 80 ps ([(aK.mk p.name p.a6 p.bl p.bI)]:List aK)=some (ps++[p]):=dy (by decide) (by unfold aA;simp;omega)
      have st:pU (((),((),(s,()))),(([]:List aK),(((),()),(ps,()))))=some (.inl (((),((),(y,()))),(([]:List aK),(((),()),(ps++[p],()))))):=by
       simp only[pU,hne,bJ,ad,z,Y,q4,bu,ak,d,g1,fJ]
      rcases ih y (ps++[p]) (by omega) (by omega) (by simp;omega) with e|⟨qs,e1,e2,bz,dn⟩
      ·exact .inl ((d' st).trans e)
      ·rw[List.append_assoc] at e1 dn;refine .inr ⟨p::qs,(d' st).trans e1,by rw[vC,e2,jx,<-aI],fun r hr=>?_,dn⟩
       rcases bO.1 hr with rfl|hr
       ·exact⟨iS,by rw[jx];exact p3⟩
       ·exact bz r hr
theorem ao6:∀(qs ps:List aK),qd qs->ps.length+qs.length<=5->
  wD (((),((),(ce qs,()))),(([]:List aK),(((),()),(ps,()))))=some (.inr (((),((),())),(([]:List aK),(((),()),(ps++qs,()))))):=by
 intro qs;induction qs with
 |nil=>intro ps _ _;rw[List.append_nil];exact cC rfl
 |cons p qs ih=>
  intro ps h hl;obtain⟨h1,h2⟩:=h p ci;have hz:=zA (bD p) (ce qs) (by omega)
  rw[<-vC] at hz;have hlen:(ce (p::qs)).length<=30000:=by
   have:=ny (f:=fun p=>cS (bD p)) (xs:=p::qs) (n:=5000) fun q aC=>by
    have:=(h q aC).2;have:=j4 (bD q).length (by omega)
    show(cS (bD q)).length<=5000;unfold cS;simp;omega
   have e:(ce (p::qs)).length=((p::qs).flatMap fun p=>cS (bD p)).length:=rfl
   simp only[cW] at hl this;have cp:(qs.length+1)*5000<=6*5000:=Nat.mul_le_mul_right _ (by omega)
   omega
  have z:=Fw (ce (p::qs)) (by unfold aA;omega)
  rw[hz] at z;have z:f66 ((ce (p::qs),()),())=some ((bD p,(ce qs,(true,()))),()):=z;have g1:=Fj h1 h2;have hne:(ce (p::qs)==([]:B))=false:=by
   have:=(y9 hz).2;cases hx:ce (p::qs) with
   |nil=>rw[hx] at this;simp at this
   |cons b r=>rfl
  have d:(((ps.length:Nat):Int)==5)=false:=by rw[beq_eq_false_iff_ne];simp at hl;omega
  have fJ:cl 80 ps ([(aK.mk p.name p.a6 p.bl p.bI)]:List aK)=some (ps++[p]):=dy (by decide) (by unfold aA;simp;simp at hl;omega)
  have st:pU (((),((),(ce (p::qs),()))),(([]:List aK),(((),()),(ps,()))))=some (.inl (((),((),(ce qs,()))),(([]:List aK),(((),()),(ps++[p],()))))):=by
   simp only[pU,hne,bJ,ad,z,Y,q4,bu,ak,d,g1,fJ]
  have:=ih (ps++[p]) (fun r hr=>h r (cf _ hr)) (by simp at hl ⊢;omega)
  rw[List.append_assoc] at this;exact(d' st).trans this
theorem PM(s:B)(hs:s.length<=1000000000):∃D:Option (List aK),f35 ((s,()),())=some (azM D)/\mG D (nZ s):=by
 have put:∀ps:List aK,nZ s ps->f35 ((s,()),())=some (Oo ps):=by
  intro ps ⟨h1,h2,h3⟩;subst h2;have hl:ps.length<=5:=(kW h1).2;obtain⟨hb,hv⟩:=we h3 (by omega)
  have g:=ao6 ps [] h3 (by simpa using hl)
  have e:=zg (((ps,()),()),()) hb hv;have e:f43 (((ps,()),()),())=some ((eE ps,()),()):=e;rw[h1] at e;simp only[f35,g,List.nil_append,Y,e,bu,ak]
 have any:f35 ((s,()),())=some ND\/∃ps,f35 ((s,()),())=some (Oo ps)/\nZ s ps:=by
  rcases ao7 s.length s [] (Nat.le_refl _) hs (by decide) with g|⟨qs,g,h1,h2,h3⟩
  ·refine .inl ?_
   simp only[f35,g,Y]
  ·rw[List.nil_append] at g h3;obtain⟨hb,hv⟩:=we h2 (by omega)
   have e:=zg (((qs,()),()),()) hb hv;have e:f43 (((qs,()),()),())=some ((eE qs,()),()):=e;cases hr:eE qs with
   |false=>
    rw[hr] at e;refine .inl ?_
    simp only[f35,g,Y,e,bJ,ad]
   |true=>
    rw[hr] at e;refine .inr ⟨qs,?_,hr,h1,h2⟩;simp only[f35,g,Y,e,bu,ak]
 rcases any with h|⟨ps,h,hr⟩
 ·refine⟨none,h,fun p=>⟨fun hp=>(by cases hp),fun hp=>?_⟩⟩
  have:=put p hp;rw[h] at this;simp only[bE,Prod.mk.injEq] at this;exact absurd this.1.2.1 (by decide)
 ·refine⟨some ps,h,fun q=>⟨fun hp=>by cases hp;exact hr,fun hp=>?_⟩⟩
  have:=put q hp;rw[h] at this;simp only[bE,Prod.mk.injEq] at this;rw[this.2.1]
theorem Qq(s t:B)(hs:s.length<=1000000000):∃D:Option (List aK),f14 (((s,(t,())),()),())=some ((D.isSome&&t==[],()),())/\mG D (nZ s):=by
 obtain⟨D,h1,h2⟩:=PM s hs;refine⟨D,?_,h2⟩;simp only[f14,h1,Y];cases D<;>rfl
theorem QN{c:UInt8}{k:Nat}{s:B}(h:cn c s):splitN c k s=[s]:=by
 cases k with
 |zero=>rfl
 |succ k=>unfold splitN;rw[aol h]
theorem PT{c:UInt8}{k:Nat}{a b:B}(h:cn c a):splitN c (k+1) (a++c::b)=a::splitN c k b:=by
 show(match dK c (a++c::b) with|some (x,y)=>x::splitN c k y|none=>[a++c::b])=_
 rw[s9 h]
theorem amy(pre mid rest:B):bq (pre++mid++rest) (pre.length:Int) ((pre.length+mid.length:Nat):Int)=some mid:=by
 rw[qY (by omega) (by simp),show pre.length+mid.length=(pre++mid).length by simp,List.take_left' rfl,List.drop_left' rfl]
theorem anU(c:UInt8)(s:B)(hs:s.length<=1000000000):∀(rest mid pre:B) (parts:List B) (k kF:Nat),s=pre++mid++rest->cn c mid->parts.length+k=kF->parts.length<=pre.length->
  ∃(J0:List B) (K9 t:B),wa ((s,((c.toNat:Int),((kF:Int),((),((pre.length:Int),(((pre.length+mid.length:Nat):Int),())))))),(parts,()))=some ((s,((),((K9.length:Int),()))),(J0,()))/\s=K9++t/\J0++[t]=parts++splitN c k (mid++rest)/\J0.length<=K9.length:=by
 intro rest;induction rest with
 |nil=>
  intro mid pre parts k kF h1 h2 h3 aF;rw[List.append_nil] at h1;refine⟨parts,pre,mid,cC ?_,h1,by rw[List.append_nil,QN h2],aF⟩
  have d:decide (((pre.length+mid.length:Nat):Int)<(s.length:Int))=false:=decide_eq_false (by rw[h1];simp)
  simp only[pL,d,ak]
 |cons b r ih=>
  intro mid pre parts k kF h1 h2 h3 aF;have hl:s.length=pre.length+mid.length+1+r.length:=by rw[h1];simp;omega
  have d:decide (((pre.length+mid.length:Nat):Int)<(s.length:Int))=true:=decide_eq_true (by omega)
  cases k with
  |zero=>
   refine⟨parts,pre,mid++b::r,cC ?_,by rw[h1,List.append_assoc],rfl,aF⟩
   have d2:decide (((parts.length:Nat):Int)<(kF:Int))=false:=decide_eq_false (by omega)
   simp only[pL,d,d2,ad,ak]
  |succ k=>
   have d2:decide (((parts.length:Nat):Int)<(kF:Int))=true:=decide_eq_true (by omega)
   have hx:aS s ((pre.length+mid.length:Nat):Int)=some b:=by
    rw[cd,h1,List.getElem?_append_right (by simp)]
    simp
   have hw:IntKind.i64.wrap (((pre.length+mid.length:Nat):Int)+1)=((pre.length+mid.length+1:Nat):Int):=b9 (by unfold aA;omega)
   by_cases hb:b=c
   ·subst hb;have aC:(((b.toNat:Nat):Int)==(b.toNat:Int))=true:=by simp
    have hm:bq s (pre.length:Int) ((pre.length+mid.length:Nat):Int)=some mid:=by rw[h1];exact amy pre mid _
    have ha:cl 16 parts ([mid]:List B)=some (parts++[mid]):=dy (by decide) (by unfold aA;simp;omega)
    have hp:(pre++mid++[b]).length=pre.length+mid.length+1:=by simp;omega
    obtain⟨h5,fT,t,g1,g2,g3,g4⟩:=ih [] (pre++mid++[b]) (parts++[mid]) k kF (by rw[h1];simp) (cn.nil b) (by simp;omega) (by rw[hp];simp;omega)
    rw[hp] at g1;refine⟨h5,fT,t,(d' ?_).trans g1,g2,?_,g4⟩
    ·simp only[pL,d,d2,ad,hx,Y,aC,hm,ha,hw];rfl
    ·rw[g3,PT h2];simp
   ·have aC:(((b.toNat:Nat):Int)==(c.toNat:Int))=false:=by
     rw[beq_eq_false_iff_ne];intro h;exact hb (UInt8.toNat_inj.1 (by omega))
    obtain⟨h5,fT,t,g1,g2,g3,g4⟩:=ih (mid++[b]) pre parts (k+1) kF (by rw[h1];simp) (h2.df fun x hx=>by rw[List.mem_singleton.1 hx];exact hb) h3 aF
    have hp:pre.length+(mid++[b]).length=pre.length+mid.length+1:=by simp;omega
    rw[hp] at g1;refine⟨h5,fT,t,(d' ?_).trans g1,g2,?_,g4⟩
    ·simp only[pL,d,d2,ad,hx,Y,aC,ak,hw]
    ·rw[g3];simp
theorem mw(c:UInt8)(s:B)(hs:s.length<=1000000000)(kF:Nat):f73 ((s,((c.toNat:Int),((kF:Int),()))),())=some (((),()),(splitN c kF s,())):=by
 obtain⟨h5,fT,t,g1,g2,g3,g4⟩:=anU c s hs s [] [] [] kF kF rfl (cn.nil c) (by simp) (Nat.le_refl _)
 have g1:wa ((s,((c.toNat:Int),((kF:Int),((),((0:Int),((0:Int),())))))),(([]:List B),()))=_:=g1;have aC:fT.length<=s.length:=by rw[g2];simp
 have e1:bq s (fT.length:Int) ((s.length:Nat):Int)=some t:=by rw[fO aC,g2];simp
 have e2:cl 16 h5 ([t]:List B)=some (h5++[t]):=dy (by decide) (by unfold aA;simp;omega)
 simp only[f73,g1,Y,e1,e2,g3];rfl
noncomputable abbrev avj:a8:=[(192,L1),(218,LW),(225,LU)]
theorem D0:aT O (aZ af avj):=aY ⟨XI,z218,XE,⟨⟩⟩
abbrev AX:Shape:=⟨[am 0,ax 2 2 0,ar 3,aj 4],[aw 2 [ah,ba,ah]],75⟩
abbrev Ig:List aR:=[(.exit 0,⟨[am 0,ax 2 2 0,ar 3,aj 4],[aw 2 [ah,ba,ah]],75⟩)]
noncomputable def rf(y:AX.J):bP AX Ig:=
 bif(decide (y.1.2.2.2.1<(y.1.1.length:Int))) then
(aS y.1.1 y.1.2.2.2.1).bind fun a=>
 bif((a.toNat:Int) !=(61:Int)) then
(aS y.1.1 y.1.2.2.2.1).bind fun b=>
 bif((b.toNat:Int) !=(62:Int)) then
(aS y.1.1 y.1.2.2.2.1).bind fun c=>
 bif((c.toNat:Int) !=(60:Int)) then
 some (.inl ((y.1.1,(),y.1.2.2.1,(IntKind.i64.wrap (y.1.2.2.2.1+(1:Int))),()),(y.2.1.1,y.2.1.2.1,y.2.1.2.2.1,()),()))
else
 some (.inr ((y.1.1,(),y.1.2.2.1,y.1.2.2.2.1,()),(y.2.1.1,y.2.1.2.1,y.2.1.2.2.1,()),()))
else
 some (.inr ((y.1.1,(),y.1.2.2.1,y.1.2.2.2.1,()),(y.2.1.1,y.2.1.2.1,y.2.1.2.2.1,()),()))
else
 some (.inr ((y.1.1,(),y.1.2.2.1,y.1.2.2.2.1,()),(y.2.1.1,y.2.1.2.1,y.2.1.2.2.1,()),()))
else
 some (.inr ((y.1.1,(),y.1.2.2.1,y.1.2.2.2.1,()),(y.2.1.1,y.2.1.2.1,y.2.1.2.2.1,()),()))
noncomputable def Bo:AX.J->Option (aG Ig):=bA rf
theorem anb:aV O (ap (codeOf Tryz.f179) 1 28) (aX AX Ig Bo):=bR D0 (by kernel_rfl) ag fun y=>by kernel_rfl
abbrev PX:Shape:=⟨[am 0,ax 2 2 0,ar 3,ax 5 5 0,am 6,aj 7,am 8],[aw 2 [ah,ba,ah],aw 5 [ah,ba,ah]],75⟩
abbrev PQ:List aR:=[(.norm,⟨[am 0,ax 2 2 0,ar 3,ax 5 5 0,am 6,aj 7,am 8,ar 58],[aw 2 [ah,ba,ah],aw 5 [ah,ba,ah]],75⟩)]
noncomputable def FT(y:PX.J):Option (aG PQ):=
 bif(decide ((y.1.2.2.2.2.1.length:Int)>=(y.1.2.2.2.2.2.2.1.length:Int))) then
(bq y.1.2.2.2.2.1 (0:Int) (y.1.2.2.2.2.2.2.1.length:Int)).bind fun a=>
 some ((y.1.1,(),y.1.2.2.1,(),y.1.2.2.2.2.1,y.1.2.2.2.2.2.1,y.1.2.2.2.2.2.2.1,(a==y.1.2.2.2.2.2.2.1),()),(y.2.1.1,y.2.1.2.1,y.2.1.2.2.1,()),(y.2.2.1.1,y.2.2.1.2.1,y.2.2.1.2.2.1,()),())
else
 some ((y.1.1,(),y.1.2.2.1,(),y.1.2.2.2.2.1,y.1.2.2.2.2.2.1,y.1.2.2.2.2.2.2.1,false,()),(y.2.1.1,y.2.1.2.1,y.2.1.2.2.1,()),(y.2.2.1.1,y.2.2.1.2.1,y.2.2.1.2.2.1,()),())
theorem ahx:aV O (ap (di (ap (codeOf Tryz.f179) 1 506)) 1012 32402) (aX PX PQ FT):=cm D0 (by kernel_rfl) ag fun y=>by kernel_rfl
abbrev z8:Shape:=⟨[am 0,ax 2 2 0,ar 3,ax 5 5 0,am 6,aj 7],[aw 2 [ah,ba,ah],aw 5 [ah,ba,ah]],75⟩
abbrev G5:List aR:=[(.exit 2,⟨[am 0,ax 2 2 0,ar 3,ax 5 5 0],[aw 2 [ah,ba,ah],aw 5 [ah,ba,ah]],75⟩)]
noncomputable def vQ(y:z8.J):bP z8 G5:=
 bif(decide (y.1.2.2.2.2.2.1<=(3:Int))) then
(f225 ((y.1.2.2.2.2.2.1,()),())).bind fun a=>
(FT ((y.1.1,(),y.1.2.2.1,(),y.1.2.2.2.2.1,y.1.2.2.2.2.2.1,a.1.1,()),(y.2.1.1,y.2.1.2.1,y.2.1.2.2.1,()),(y.2.2.1.1,y.2.2.1.2.1,y.2.2.1.2.2.1,()),())).bind fun b=>
 bif b.1.2.2.2.2.2.2.2.1 then
(bq b.1.2.2.2.2.1 (b.1.2.2.2.2.2.2.1.length:Int) (b.1.2.2.2.2.1.length:Int)).bind fun c=>
 some (.inl ((b.1.1,(),b.1.2.2.1,(),b.1.2.2.2.2.1,(IntKind.i64.wrap (b.1.2.2.2.2.2.1+(1:Int))),()),(b.2.1.1,b.2.1.2.1,b.2.1.2.2.1,()),(b.2.2.1.1,b.1.2.2.2.2.2.1,c,()),()))
else
 some (.inl ((b.1.1,(),b.1.2.2.1,(),b.1.2.2.2.2.1,(IntKind.i64.wrap (b.1.2.2.2.2.2.1+(1:Int))),()),(b.2.1.1,b.2.1.2.1,b.2.1.2.2.1,()),(b.2.2.1.1,b.2.2.1.2.1,b.2.2.1.2.2.1,()),()))
else
 some (.inr ((y.1.1,(),y.1.2.2.1,(),()),(y.2.1.1,y.2.1.2.1,y.2.1.2.2.1,()),(y.2.2.1.1,y.2.2.1.2.1,y.2.2.1.2.2.1,()),()))
noncomputable def Ht:z8.J->Option (aG G5):=bA vQ
theorem alf:aV O (ap (codeOf Tryz.f179) 1 506) (aX z8 G5 Ht):=bR D0 (by kernel_rfl) (a7 ahx ag) fun y=>by kernel_rfl
abbrev i179:Shape:=⟨[am 0],[],75⟩
abbrev YU:Shape:=⟨[ax 2 2 0,ar 3],[aw 2 [ah,ba,ah]],75⟩
noncomputable def f179(a:i179.J):Option YU.J:=
(Bo ((a.1.1,(),false,(0:Int),()),(([]:B),(0:Int),([]:B),()),())).bind fun b=>
(bq b.1.1 (0:Int) b.1.2.2.2.1).bind fun c=>
(bq b.1.1 b.1.2.2.2.1 (b.1.1.length:Int)).bind fun d=>
(Ht ((b.1.1,(),b.1.2.2.1,(),d,(1:Int),()),(b.2.1.1,b.2.1.2.1,b.2.1.2.2.1,()),(c,(0:Int),([]:B),()),())).bind fun e=>
(f192 (((e.2.2.1.1,e.2.2.1.2.1,e.2.2.1.2.2.1,()),()),())).bind fun f=>
 bif f.1.1 then
(f218 (((e.2.2.1.1,e.2.2.1.2.1,e.2.2.1.2.2.1,()),()),())).bind fun g=>
 some (((),(g.1.1==e.1.1),()),(e.2.2.1.1,e.2.2.1.2.1,e.2.2.1.2.2.1,()),())
else
 some (((),false,()),(e.2.2.1.1,e.2.2.1.2.1,e.2.2.1.2.2.1,()),())
noncomputable def _5:aH:=aL af Tryz.f179 i179 YU [] f179
theorem asT:aE O 179 _5:=aM D0 Tryz.func179 (by kernel_rfl) (a7 anb (a7 alf ag)) (fun y=>by kernel_rfl) fun a=>by kernel_rfl
theorem anW(s:B)(hs:s.length<=1000000000):∀(t a:B),s=a++t->(∀y,y∈a->fb.contains y=false)->
  ∃c_ bw:B,Bo ((s,((),(false,((a.length:Int),())))),((([]:B),((0:Int),(([]:B),()))),()))=some ((s,((),(false,((c_.length:Int),())))),((([]:B),((0:Int),(([]:B),()))),()))/\s=c_++bw/\(∀y,y∈c_->fb.contains y=false)/\(bw=[]\/∃x r,bw=x::r/\fb.contains x=true):=by
 intro t;induction t with
 |nil=>
  intro a h1 h2;refine⟨a,[],cC ?_,h1,h2,.inl rfl⟩;have d:decide (((a.length:Nat):Int)<(s.length:Int))=false:=decide_eq_false (by rw[h1];simp)
  simp only[rf,d,ak]
 |cons b r ih=>
  intro a h1 h2;have hl:s.length=a.length+1+r.length:=by rw[h1];simp;omega
  have d:decide (((a.length:Nat):Int)<(s.length:Int))=true:=decide_eq_true (by omega)
  have hx:aS s (a.length:Int)=some b:=by
   rw[cd,h1,List.getElem?_append_right (by omega)];simp
  have hw:IntKind.i64.wrap (((a.length:Nat):Int)+1)=((a.length+1:Nat):Int):=b9 (by unfold aA;omega)
  cases hb:fb.contains b with
  |true=>
   refine⟨a,b::r,cC ?_,h1,h2,.inr ⟨b,r,rfl,hb⟩⟩;have hc:b=61\/b=60\/b=62:=by simpa[fb] using hb
   rcases hc with rfl|rfl|rfl
   ·have t1:((((61:UInt8).toNat:Nat):Int) !=61)=false:=rfl;simp only[rf,d,ad,hx,Y,t1,ak]
   ·have t1:((((60:UInt8).toNat:Nat):Int) !=61)=true:=rfl;have t2:((((60:UInt8).toNat:Nat):Int) !=62)=true:=rfl;have t3:((((60:UInt8).toNat:Nat):Int) !=60)=false:=rfl;simp only[rf,d,ad,hx,Y,t1,t2,t3,ak]
   ·have t1:((((62:UInt8).toNat:Nat):Int) !=61)=true:=rfl;have t2:((((62:UInt8).toNat:Nat):Int) !=62)=false:=rfl;simp only[rf,d,ad,hx,Y,t1,t2,ak]
  |false=>
   have hc:¬(b=61\/b=60\/b=62):=by
    intro h;rcases h with rfl|rfl|rfl<;>revert hb<;>decide
   have ne:∀k:UInt8,b≠k->(((b.toNat:Nat):Int) !=(k.toNat:Int))=true:=fun k hk=>by
    rw[bne_iff_ne];intro h;exact hk (UInt8.toNat_inj.1 (by omega))
   have t1:(((b.toNat:Nat):Int) !=61)=true:=ne 61 fun h=>hc (.inl h)
   have t2:(((b.toNat:Nat):Int) !=62)=true:=ne 62 fun h=>hc (.inr (.inr h))
   have t3:(((b.toNat:Nat):Int) !=60)=true:=ne 60 fun h=>hc (.inr (.inl h))
   have st:rf ((s,((),(false,((a.length:Int),())))),((([]:B),((0:Int),(([]:B),()))),()))=some (.inl ((s,((),(false,(((a.length+1:Nat):Int),())))),((([]:B),((0:Int),(([]:B),()))),()))):=by
    simp only[rf,d,ad,hx,Y,t1,t2,t3,hw]
   obtain⟨c_,bw,g1,g2⟩:=ih (a++[b]) (by rw[h1];simp) (fun y hy=>by
    rcases bp.1 hy with hy|hy
    ·exact h2 y hy
    ·rw[List.mem_singleton.1 hy];exact hb)
   rw[show(a++[b]).length=a.length+1 by simp] at g1
   exact⟨c_,bw,(d' st).trans g1,g2⟩
def ju(t:B)(k:Int)(q:Int×B):Int×B:=match ek (ea k) t with|some r=>(k,r)|none=>q
theorem IR(s t bW v:B)(k q:Int)(h:k<=3)(h0:0<=k):
  vQ ((s,((),(false,((),(t,(k,())))))),((([]:B),((0:Int),(([]:B),()))),((bW,(q,(v,()))),())))=some (.inl ((s,((),(false,((),(t,(k+1,())))))),((([]:B),((0:Int),(([]:B),()))),((bW,((ju t k (q,v)).1,((ju t k (q,v)).2,()))),())))):=by
 have d:decide (k<=3)=true:=decide_eq_true h;have e:=RG k;have hw:IntKind.i64.wrap (k+1)=k+1:=c' (by omega) (by omega)
 unfold ju ek;have aa:decide (((t.length:Nat):Int)>=(((ea k).length:Nat):Int))=decide ((ea k).length<=t.length):=by congr 1;apply propext;omega
 simp only[vQ,d,ad,e,Y,FT,aa];cases hc:decide ((ea k).length<=t.length) with
 |false=>simp only[ak,Y,Bool.false_and,hw]
 |true=>
  have hle:=of_decide_eq_true hc;have e1:bq t 0 (((ea k).length:Nat):Int)=some (t.take (ea k).length):=gw hle;have e2:bq t (((ea k).length:Nat):Int) ((t.length:Nat):Int)=some (t.drop (ea k).length):=fO hle;simp only[ad,e1,Y,Bool.true_and];cases t.take (ea k).length==ea k with
  |false=>simp only[ak,hw]
  |true=>simp only[ad,e2,Y,hw]
theorem aiL:∀{a c_ t bw:B},a++t=c_++bw->(∀y,y∈a->fb.contains y=false)->(∀y,y∈c_->fb.contains y=false)->(t=[]\/∃x r,t=x::r/\fb.contains x=true)->(bw=[]\/∃x r,bw=x::r/\fb.contains x=true)->a=c_/\t=bw:=by
 intro a;induction a with
 |nil=>
  intro c_ t bw h h1 h2 h3 aF;cases c_ with
  |nil=>exact⟨rfl,h⟩
  |cons b r=>
   have hb:=h2 b ci;rcases h3 with rfl|⟨x,eY,rfl,hx⟩
   ·cases h
   ·have:x=b:=by simp at h;exact h.1
    rw[this,hb] at hx;cases hx
 |cons b a ih=>
  intro c_ t bw h h1 h2 h3 aF;cases c_ with
  |nil=>
   have hb:=h1 b ci;rcases aF with rfl|⟨x,eY,rfl,hx⟩
   ·cases h
   ·have:b=x:=by simp at h;exact h.1
    rw[<-this,hb] at hx;cases hx
  |cons bQ c_=>
   simp only[List.cons_append,List.cons.injEq] at h;obtain⟨rfl,h⟩:=h;obtain⟨e1,e2⟩:=ih h (fun y hy=>h1 y (cf _ hy)) (fun y hy=>h2 y (cf _ hy)) h3 aF
   exact⟨by rw[e1],e2⟩
def fI(t:B):Int×B:=ju t 3 (ju t 2 (ju t 1 (0,[])))
theorem IS(t:B)(k:Int)(q:Int×B)(h:q.2.length<=t.length):(ju t k q).2.length<=t.length:=by
 unfold ju;split
 ·rename_i r hr;exact Rs hr
 ·exact h
theorem T0(t:B):(fI t).2.length<=t.length:=IS t 3 _ (IS t 2 _ (IS t 1 _ (Nat.zero_le _)))
theorem S0(s:B)(hs:s.length<=2000000):∃(a t:B) (ok:Bool),f179 ((s,()),())=some (((),(ok,())),((a,((fI t).1,((fI t).2,()))),()))/\s=a++t/\(∀y,y∈a->fb.contains y=false)/\(t=[]\/∃x r,t=x::r/\fb.contains x=true):=by
 obtain⟨a,t,g1,h1,h2,h3⟩:=anW s (by omega) s [] rfl (fun y hy=>by cases hy)
 have g1:Bo ((s,((),(false,((0:Int),())))),((([]:B),((0:Int),(([]:B),()))),()))=_:=g1;have hl:s.length=a.length+t.length:=by rw[h1];simp
 have e1:bq s 0 ((a.length:Nat):Int)=some a:=by rw[gw (by omega),h1];simp
 have e2:bq s ((a.length:Nat):Int) ((s.length:Nat):Int)=some t:=by rw[fO (by omega),h1];simp
 have s1:=IR s t a [] 1 0 (by decide) (by decide)
 have s2:=IR s t a (ju t 1 (0,[])).2 2 (ju t 1 (0,[])).1 (by decide) (by decide)
 have h4:=IR s t a (ju t 2 (ju t 1 (0,[]))).2 3 (ju t 2 (ju t 1 (0,[]))).1 (by decide) (by decide)
 have aej:vQ ((s,((),(false,((),(t,((3:Int)+1,())))))),((([]:B),((0:Int),(([]:B),()))),((a,((fI t).1,((fI t).2,()))),())))=some (.inr ((s,((),(false,((),())))),((([]:B),((0:Int),(([]:B),()))),((a,((fI t).1,((fI t).2,()))),())))):=by
  have d:decide ((3:Int)+1<=3)=false:=by decide
  simp only[vQ,d,ak]
 have g2:Ht ((s,((),(false,((),(t,((1:Int),())))))),((([]:B),((0:Int),(([]:B),()))),((a,((0:Int),(([]:B),()))),())))=some ((s,((),(false,((),())))),((([]:B),((0:Int),(([]:B),()))),((a,((fI t).1,((fI t).2,()))),()))):=
  (d' s1).trans ((d' s2).trans ((d' h4).trans (cC aej)))
 have hv:=T0 t;have bz:=RM (((a,((fI t).1,((fI t).2,()))),()),()) (by show a.length<=2097152;omega) (by show(fI t).2.length<=2097152;omega)
 have dn:=SZ ⟨a,(fI t).1,(fI t).2⟩ ⟨by show a.length<=2097152;omega,by show(fI t).2.length<=2097152;omega⟩
 refine⟨a,t,dR ⟨a,(fI t).1,(fI t).2⟩&&cX ⟨a,(fI t).1,(fI t).2⟩==s,?_,h1,h2,h3⟩;simp only[f179,g1,Y,e1,e2,g2,bz];cases dR ⟨a,(fI t).1,(fI t).2⟩ with
 |false=>rfl
 |true=>
  simp only[ad,dn,Y];rfl
theorem agf(s:B)(hs:s.length<=2000000):∃(n:bF) (ok:Bool),f179 ((s,()),())=some (((),(ok,())),((n.name,(n.kind,(n.a6,()))),()))/\n.name.length<=s.length/\n.a6.length<=s.length:=by
 obtain⟨a,t,ok,h,h1,_⟩:=S0 s hs;have hv:=T0 t;have hl:s.length=a.length+t.length:=by rw[h1];simp
 exact⟨⟨a,(fI t).1,(fI t).2⟩,ok,h,by show a.length<=_;omega,by show(fI t).2.length<=_;omega⟩
theorem age{n:bF}(h:dR n=true)(hs:(cX n).length<=2000000):∃ok:Bool,f179 ((cX n,()),())=some (((),(ok,())),((n.name,(n.kind,(n.a6,()))),())):=by
 obtain⟨a,t,ok,e,h1,h2,h3⟩:=S0 (cX n) hs;obtain⟨aI,aJ⟩:=yV h;have hno:=R' (Fs aI);obtain⟨bW,k,v⟩:=n;have key:∀bw:B,cX ⟨bW,k,v⟩=bW++bw->(bw=[]\/∃x r,bw=x::r/\fb.contains x=true)->fI bw=(k,v)->∃ok:Bool,f179 ((cX ⟨bW,k,v⟩,()),())=some (((),(ok,())),((bW,(k,(v,()))),())):=by
  intro bw q1 q2 ec;obtain⟨e1,e2⟩:=aiL (h1.symm.trans q1) h2 hno h3 q2;subst e1 e2;rw[ec] at e;exact⟨ok,e⟩
 rcases aJ with⟨hk,hv⟩|⟨hk,hv⟩
 ·have hk:k=0:=hk;have hv:v=[]:=hv;subst hk hv;exact key [] (by unfold cX ea;simp) (.inl rfl) (by decide)
 ·rcases hk with hk|hk|hk
  ·have hk:k=1:=hk;subst hk;refine key (61::v) (by unfold cX ea;simp) (.inr ⟨61,v,rfl,by decide⟩) ?_
   have d1:ek (ea 1) (61::v)=some v:=vJ [61] v;have d2:ek (ea 2) (61::v)=none:=by unfold ek;cases v<;>simp[ea]
   have d3:ek (ea 3) (61::v)=none:=by unfold ek;simp[ea]
   simp only[fI,ju,d1,d2,d3]
  ·have hk:k=2:=hk;subst hk;refine key (62::61::v) (by unfold cX ea;simp) (.inr ⟨62,61::v,rfl,by decide⟩) ?_
   have d1:ek (ea 1) (62::61::v)=none:=by unfold ek;simp[ea]
   have d2:ek (ea 2) (62::61::v)=some v:=vJ [62,61] v;have d3:ek (ea 3) (62::61::v)=none:=by unfold ek;simp[ea]
   simp only[fI,ju,d1,d2,d3]
  ·have hk:k=3:=hk;subst hk;refine key (60::v) (by unfold cX ea;simp) (.inr ⟨60,v,rfl,by decide⟩) ?_
   have d1:ek (ea 1) (60::v)=none:=by unfold ek;simp[ea]
   have d2:ek (ea 2) (60::v)=none:=by unfold ek;cases v<;>simp[ea]
   have d3:ek (ea 3) (60::v)=some v:=vJ [60] v;simp only[fI,ju,d1,d2,d3]
noncomputable abbrev avi:a8:=[(73,pi),(74,yk),(75,ph)]
theorem xC:aT O (aZ af avi):=aY ⟨ql,D7,z75,⟨⟩⟩
abbrev So:Shape:=⟨[ax 2 2 0,am 3,ar 4,bd 5 3000320,bd 6 3000384],[aw 2 [ah,ba,ba,ah],bc 3000320 .str 5 0,bc 3000384 .str 6 0],110⟩
abbrev R7:List aR:=[(.norm,⟨[ax 2 2 0,am 3,ar 4,bd 5 3000320,bd 6 3000384,ar 18],[aw 2 [ah,ba,ba,ah],bc 3000320 .str 5 0,bc 3000384 .str 6 0],110⟩)]
noncomputable def nx(y:So.J):Option (aG R7):=
(bh y.2.2.2.1.length (0:Int)).bind fun a=>
(y.2.2.2.1[a]?).bind fun b=>
 bif(b==([100,105,114]:B)) then
 some (((),y.1.2.1,y.1.2.2.1,(),(),((y.2.2.2.1.length:Int)==(3:Int)),()),(y.2.1.1,y.2.1.2.1,y.2.1.2.2.1,y.2.1.2.2.2.1,()),y.2.2.1,y.2.2.2.1,())
else
 some (((),y.1.2.1,y.1.2.2.1,(),(),false,()),(y.2.1.1,y.2.1.2.1,y.2.1.2.2.1,y.2.1.2.2.2.1,()),y.2.2.1,y.2.2.2.1,())
theorem ale:aV O (ap (codeOf Tryz.f180) 1 248) (aX So R7 nx):=cm xC (by kernel_rfl) ag fun y=>by kernel_rfl
abbrev Sn:Shape:=⟨[ax 2 2 0,am 3,ar 4,bd 5 3000320,bd 6 3000384],[aw 2 [ah,ba,ba,ah],bc 3000320 .str 5 0,bc 3000384 .str 6 0],110⟩
abbrev R6:List aR:=[(.norm,⟨[ax 2 2 0,am 3,ar 4,bd 5 3000320,bd 6 3000384,ar 39],[aw 2 [ah,ba,ba,ah],bc 3000320 .str 5 0,bc 3000384 .str 6 0],110⟩)]
noncomputable def oz(y:Sn.J):Option (aG R6):=
(bh y.2.2.2.1.length (0:Int)).bind fun a=>
(y.2.2.2.1[a]?).bind fun b=>
 bif(b==([108,105,110,107]:B)) then
 some (((),y.1.2.1,y.1.2.2.1,(),(),((y.2.2.2.1.length:Int)==(3:Int)),()),(y.2.1.1,y.2.1.2.1,y.2.1.2.2.1,y.2.1.2.2.2.1,()),y.2.2.1,y.2.2.2.1,())
else
 some (((),y.1.2.1,y.1.2.2.1,(),(),false,()),(y.2.1.1,y.2.1.2.1,y.2.1.2.2.1,y.2.1.2.2.2.1,()),y.2.2.1,y.2.2.2.1,())
theorem ald:aV O (ap (codeOf Tryz.f180) 1 998) (aX Sn R6 oz):=cm xC (by kernel_rfl) ag fun y=>by kernel_rfl
abbrev QU:Shape:=⟨[ax 2 2 0,am 3,ar 4,bd 5 3000320,bd 6 3000384],[aw 2 [ah,ba,ba,ah],bc 3000320 .str 5 0,bc 3000384 .str 6 0],110⟩
abbrev QB:List aR:=[(.norm,⟨[ax 2 2 0,am 3,ar 4,bd 5 3000320,bd 6 3000384,ar 59],[aw 2 [ah,ba,ba,ah],bc 3000320 .str 5 0,bc 3000384 .str 6 0],110⟩)]
noncomputable def pD(y:QU.J):Option (aG QB):=
(bh y.2.2.2.1.length (0:Int)).bind fun a=>
(y.2.2.2.1[a]?).bind fun b=>
 bif(b==([102,105,108,101]:B)) then
 some (((),y.1.2.1,y.1.2.2.1,(),(),((y.2.2.2.1.length:Int)==(4:Int)),()),(y.2.1.1,y.2.1.2.1,y.2.1.2.2.1,y.2.1.2.2.2.1,()),y.2.2.1,y.2.2.2.1,())
else
 some (((),y.1.2.1,y.1.2.2.1,(),(),false,()),(y.2.1.1,y.2.1.2.1,y.2.1.2.2.1,y.2.1.2.2.2.1,()),y.2.2.1,y.2.2.2.1,())
theorem ai7:aV O (ap (codeOf Tryz.f180) 1 3998) (aX QU QB pD):=cm xC (by kernel_rfl) ag fun y=>by kernel_rfl
abbrev PW:Shape:=⟨[ax 2 2 0,am 3,ar 4,bd 5 3000320,bd 6 3000384,aj 7],[aw 2 [ah,ba,ba,ah],bc 3000320 .str 5 0,bc 3000384 .str 6 0],110⟩
abbrev PP:List aR:=[(.norm,⟨[ax 2 2 0,am 3,ar 4,bd 5 3000320,bd 6 3000384,aj 7,ar 88],[aw 2 [ah,ba,ba,ah],bc 3000320 .str 5 0,bc 3000384 .str 6 0],110⟩)]
noncomputable def vx(y:PW.J):Option (aG PP):=
(bh y.2.2.1.length (1:Int)).bind fun a=>
(y.2.2.1[a]?).bind fun b=>
(f75 ((y.1.2.2.2.2.2.1,(0:Int),(IntKind.i64.wrap ((b.length:Int)-(1:Int))),()),())).bind fun c=>
 bif(!(!c.1.1)) then
(bh y.2.2.1.length (1:Int)).bind fun d=>
(y.2.2.1[d]?).bind fun e=>
(aS e y.1.2.2.2.2.2.1).bind fun f=>
 some (((),y.1.2.1,y.1.2.2.1,(),(),y.1.2.2.2.2.2.1,((f.toNat:Int) !=(10:Int)),()),(y.2.1.1,y.2.1.2.1,y.2.1.2.2.1,y.2.1.2.2.2.1,()),y.2.2.1,y.2.2.2.1,())
else
 some (((),y.1.2.1,y.1.2.2.1,(),(),y.1.2.2.2.2.2.1,true,()),(y.2.1.1,y.2.1.2.1,y.2.1.2.2.1,y.2.1.2.2.2.1,()),y.2.2.1,y.2.2.2.1,())
theorem ahw:aV O (ap (codeOf Tryz.f180) 1 63988) (aX PW PP vx):=cm xC (by kernel_rfl) ag fun y=>by kernel_rfl
abbrev i180:Shape:=⟨[am 0],[],110⟩
abbrev xf:Shape:=⟨[ax 2 2 0,am 3,ar 4],[aw 2 [ah,ba,ba,ah]],110⟩
noncomputable def f180(a:i180.J):Option xf.J:=
(f73 ((a.1.1,(10:Int),(1:Int),()),())).bind fun b=>
 bif(decide ((b.2.1.length:Int)<(2:Int))) then
 some (((),([]:B),false,()),(([]:B),(0:Int),(0:Int),([]:B),()),())
else
(bh b.2.1.length (0:Int)).bind fun c=>
(b.2.1[c]?).bind fun d=>
(f73 ((d,(32:Int),(4:Int),()),())).bind fun e=>
(nx (((),([]:B),false,(),(),()),(([]:B),(0:Int),(0:Int),([]:B),()),b.2.1,e.2.1,())).bind fun f=>
 bif f.1.2.2.2.2.2.1 then
(bh f.2.2.2.1.length (2:Int)).bind fun g=>
(f.2.2.2.1[g]?).bind fun h=>
(bh f.2.2.2.1.length (1:Int)).bind fun i=>
(f.2.2.2.1[i]?).bind fun j=>
(f74 ((j,()),())).bind fun k=>
(bh f.2.2.1.length (1:Int)).bind fun l=>
(f.2.2.1[l]?).bind fun m=>
 some (((),m,true,()),(h,(1:Int),k.1.1,([]:B),()),())
else
(oz (((),f.1.2.1,f.1.2.2.1,(),(),()),(f.2.1.1,f.2.1.2.1,f.2.1.2.2.1,f.2.1.2.2.2.1,()),f.2.2.1,f.2.2.2.1,())).bind fun n=>
 bif n.1.2.2.2.2.2.1 then
(bh n.2.2.2.1.length (1:Int)).bind fun D=>
(n.2.2.2.1[D]?).bind fun p=>
(bh n.2.2.2.1.length (2:Int)).bind fun q=>
(n.2.2.2.1[q]?).bind fun r=>
(bh n.2.2.1.length (1:Int)).bind fun s=>
(n.2.2.1[s]?).bind fun t=>
 some (((),t,true,()),(p,(3:Int),(0:Int),r,()),())
else
(pD (((),n.1.2.1,n.1.2.2.1,(),(),()),(n.2.1.1,n.2.1.2.1,n.2.1.2.2.1,n.2.1.2.2.2.1,()),n.2.2.1,n.2.2.2.1,())).bind fun u=>
 bif u.1.2.2.2.2.2.1 then
(bh u.2.2.2.1.length (3:Int)).bind fun v=>
(u.2.2.2.1[v]?).bind fun w=>
(f74 ((w,()),())).bind fun x=>
(vx (((),u.1.2.1,u.1.2.2.1,(),(),x.1.1,()),(u.2.1.1,u.2.1.2.1,u.2.1.2.2.1,u.2.1.2.2.2.1,()),u.2.2.1,u.2.2.2.1,())).bind fun y=>
 bif y.1.2.2.2.2.2.2.1 then
 some (((),([]:B),false,()),(([]:B),(0:Int),(0:Int),([]:B),()),())
else
(bh y.2.2.2.1.length (2:Int)).bind fun z=>
(y.2.2.2.1[z]?).bind fun A=>
(bh y.2.2.2.1.length (1:Int)).bind fun bx=>
(y.2.2.2.1[bx]?).bind fun C=>
(f74 ((C,()),())).bind fun bk=>
(bh y.2.2.1.length (1:Int)).bind fun E=>
(y.2.2.1[E]?).bind fun aW=>
(bq aW (0:Int) y.1.2.2.2.2.2.1).bind fun G=>
(bh y.2.2.1.length (1:Int)).bind fun H=>
(y.2.2.1[H]?).bind fun I=>
(bq I (IntKind.i64.wrap (y.1.2.2.2.2.2.1+(1:Int))) (I.length:Int)).bind fun fq=>
 some (((),fq,true,()),(A,(2:Int),bk.1.1,G,()),())
else
 some (((),([]:B),false,()),(([]:B),(0:Int),(0:Int),([]:B),()),())
noncomputable def _4:aH:=aL af Tryz.f180 i180 xf [] f180
theorem asS:aE O 180 _4:=aM xC Tryz.func180 (by kernel_rfl) (a7 ale (a7 ald (a7 ai7 (a7 ahw ag)))) (fun y=>by kernel_rfl) fun a=>by kernel_rfl
def hh(s:B):Int:=bif s.all c7&&decide (s.length<=6)&&!(s==[])&&!iF s then du s else-1
theorem qT(s:B)(hs:aA s.length):f74 ((s,()),())=some ((hh s,()),()):=HX ((s,()),()) hs
theorem Gl(n:Nat)(h:n<1000000):hh (Lib.itoa (n:Int))=(n:Int):=by
 have h1:=qT (Lib.itoa (n:Int)) (by rw[ox];have:=HP 5 n (by omega);unfold aA;omega)
 rw[ahR n h] at h1;simp only[bE,Prod.mk.injEq] at h1;exact h1.1.1.symm
def rT(a' w2 cr r:B):Option (aB×B):=bif within (hh cr) 0 ((r.length:Int)-1) then(match r.drop (hh cr).toNat with|10::eY=>some (⟨w2,2,hh a',r.take (hh cr).toNat⟩,eY)|_=>none) else none
def gE(ws:List B)(r:B):Option (aB×B):=match ws with
 |[U,a',w2]=>bif U==il then some (⟨w2,1,hh a',[]⟩,r) else bif U==ij then some (⟨a',3,0,w2⟩,r) else none
 |[U,a',w2,cr]=>bif U==iH then rT a' w2 cr r else none
 |_=>none
def nW(s:B):Option (aB×B):=match dK 10 s with
 |some (b8,r)=>gE (splitN 32 4 b8) r
 |none=>none
abbrev vi(D:Bool)(e:aB)(r:B):xf.J:=(((),(r,(D,()))),((e.path,(e.kind,(e.mode,(e.text,())))),()))
theorem ML{n:Nat}(h:0<n):bh n (0:Int)=some 0:=fQ h
theorem MK{n:Nat}(h:1<n):bh n (1:Int)=some 1:=fQ h
theorem acB{n:Nat}(h:2<n):bh n (2:Int)=some 2:=fQ h
theorem acA{n:Nat}(h:3<n):bh n (3:Int)=some 3:=fQ h
theorem RI(s:B)(hs:s.length<=2000000):∃(r:B) (e:aB),f180 ((s,()),())=some (vi (nW s).isSome e r)/\∀q,nW s=some q->q=(e,r):=by
 have c1:=mw 10 s (by omega) 1
 have c1:f73 ((s,((10:Int),((1:Int),()))),())=_:=c1;have zero:∀{D:Option (aB×B)} {x:Option xf.J},D=none->x=some (vi false ⟨[],0,0,[]⟩ [])->∃(r:B) (e:aB),x=some (vi D.isSome e r)/\∀q,D=some q->q=(e,r):=by
  intro D x aP hx;subst aP;exact⟨[],⟨[],0,0,[]⟩,hx,fun q aC=>by cases aC⟩
 have one:∀{D:Option (aB×B)} {x:Option xf.J} {e:aB} {r:B},D=some (e,r)->x=some (vi true e r)->∃(r:B) (e:aB),x=some (vi D.isSome e r)/\∀q,D=some q->q=(e,r):=by
  intro D x e r aP hx;subst aP;exact⟨r,e,hx,fun q aC=>by cases aC;rfl⟩
 cases aC:dK 10 s with
 |none=>
  have e4:splitN 10 1 s=[s]:=by unfold splitN;rw[aC]
  rw[e4] at c1;refine zero (by unfold nW;rw[aC]) ?_
  have d:decide ((([s]:List B).length:Int)<2)=true:=rfl;simp only[f180,c1,Y,d,ad]
 |some q=>
  obtain⟨b8,rest⟩:=q;have hl:=(jD aC).1;have hl:s.length=b8.length+1+rest.length:=by rw[hl];simp;omega
  have e4:splitN 10 1 s=[b8,rest]:=by unfold splitN;rw[aC];rfl
  rw[e4] at c1;have c2:=mw 32 b8 (by omega) 4
  have c2:f73 ((b8,((32:Int),((4:Int),()))),())=_:=c2;have hr:nW s=gE (splitN 32 4 b8) rest:=by unfold nW;rw[aC]
  have hm:=qM 32 4 b8;have hp:=PS 32 4 b8;rw[hr];generalize splitN 32 4 b8=ws at c2 hm hp;have d:decide ((([b8,rest]:List B).length:Int)<2)=false:=rfl;have i0:bh ([b8,rest]:List B).length (0:Int)=some 0:=rfl;have i1:bh ([b8,rest]:List B).length (1:Int)=some 1:=rfl;have fy:([b8,rest]:List B)[0]? =some b8:=rfl;have eC:([b8,rest]:List B)[1]? =some rest:=rfl;have xp:∀w:B,(w==([100,105,114]:B))=(w==il):=fun _=>rfl
  have Dg:∀w:B,(w==([108,105,110,107]:B))=(w==ij):=fun _=>rfl
  have tY:∀w:B,(w==([102,105,108,101]:B))=(w==iH):=fun _=>rfl
  have other:∀(U:B) (more:List B),ws=U::more->((ws.length:Int)==3)=false->((ws.length:Int)==4)=false->gE ws rest=none->∃(r:B) (e:aB),f180 ((s,()),())=some (vi (gE ws rest).isSome e r)/\∀q,gE ws rest=some q->q=(e,r):=by
   intro U more hw h3 aF h;refine zero h ?_
   have h7:bh ws.length (0:Int)=some 0:=ML (by omega)
   have dS:ws[0]? =some U:=by rw[hw];rfl
   simp only[f180,c1,Y,d,ak,i0,fy,c2,nx,h7,dS,h3];cases U==([100,105,114]:B)<;>simp only[ad,ak,Y,oz,h7,dS,h3]<;>cases U==([108,105,110,107]:B)<;>simp only[ad,ak,Y,pD,h7,dS,aF]<;>cases U==([102,105,108,101]:B)<;>rfl
  match ws,other,c2,hm,hp with
  |[],other,c2,hm,hp=>exact absurd hp (by decide)
  |[U],other,c2,hm,hp=>exact other U [] rfl rfl rfl rfl
  |[U,a'],other,c2,hm,hp=>exact other U [a'] rfl rfl rfl rfl
  |U::a'::w2::cr::lv::more,other,c2,hm,hp=>exact other U _ rfl (by rw[beq_eq_false_iff_ne];simp;omega) (by rw[beq_eq_false_iff_ne];simp;omega) rfl
  |[U,a',w2],_,c2,hm,hp=>
   have h7:bh ([U,a',w2]:List B).length (0:Int)=some 0:=rfl;have ml:bh ([U,a',w2]:List B).length (1:Int)=some 1:=rfl;have qG:bh ([U,a',w2]:List B).length (2:Int)=some 2:=rfl;have dS:([U,a',w2]:List B)[0]? =some U:=rfl;have cT:([U,a',w2]:List B)[1]? =some a':=rfl;have dC:([U,a',w2]:List B)[2]? =some w2:=rfl;have h3:((([U,a',w2]:List B).length:Int)==3)=true:=rfl;have aF:((([U,a',w2]:List B).length:Int)==4)=false:=rfl;have m1:=hm a' (by simp)
   have n1:=qT a' (by unfold aA;omega)
   cases fa:U==il with
   |true=>
    refine one (show gE [U,a',w2] rest=some (⟨w2,1,hh a',[]⟩,rest) by unfold gE;simp only[fa,ad]) ?_
    simp only[f180,c1,Y,d,ak,i0,fy,c2,nx,h7,dS,h3,xp,fa,ad,qG,dC,ml,cT,n1,i1,eC]
   |false=>
    cases e1:U==ij with
    |true=>
     refine one (show gE [U,a',w2] rest=some (⟨a',3,0,w2⟩,rest) by unfold gE;simp only[fa,e1,ad,ak]) ?_
     simp only[f180,c1,Y,d,ak,i0,fy,c2,nx,h7,dS,h3,xp,fa,ad,qG,dC,ml,cT,i1,eC,oz,Dg,e1]
    |false=>
     refine zero (show gE [U,a',w2] rest=none by unfold gE;simp only[fa,e1,ak]) ?_
     simp only[f180,c1,Y,d,ak,i0,fy,c2,nx,h7,dS,h3,aF,xp,fa,oz,Dg,e1,pD];cases U==([102,105,108,101]:B)<;>rfl
  |[U,a',w2,cr],_,c2,hm,hp=>
   have h7:bh ([U,a',w2,cr]:List B).length (0:Int)=some 0:=rfl;have ml:bh ([U,a',w2,cr]:List B).length (1:Int)=some 1:=rfl;have qG:bh ([U,a',w2,cr]:List B).length (2:Int)=some 2:=rfl;have Oc:bh ([U,a',w2,cr]:List B).length (3:Int)=some 3:=rfl;have dS:([U,a',w2,cr]:List B)[0]? =some U:=rfl;have cT:([U,a',w2,cr]:List B)[1]? =some a':=rfl;have dC:([U,a',w2,cr]:List B)[2]? =some w2:=rfl;have dW:([U,a',w2,cr]:List B)[3]? =some cr:=rfl;have h3:((([U,a',w2,cr]:List B).length:Int)==3)=false:=rfl;have aF:((([U,a',w2,cr]:List B).length:Int)==4)=true:=rfl;have m1:=hm a' (by simp)
   have m3:=hm cr (by simp)
   have n1:=qT a' (by unfold aA;omega)
   have je:=qT cr (by unfold aA;omega)
   have b1:∀b:Bool,(bif b then some ((((),(([]:B),(false,((),((),(false,())))))),((([]:B),((0:Int),((0:Int),(([]:B),())))),([b8,rest],([U,a',w2,cr],()))))) else some ((((),(([]:B),(false,((),((),(false,())))))),((([]:B),((0:Int),((0:Int),(([]:B),())))),([b8,rest],([U,a',w2,cr],()))))))=some ((((),(([]:B),(false,((),((),(false,())))))),((([]:B),((0:Int),((0:Int),(([]:B),())))),([b8,rest],([U,a',w2,cr],()))))):=fun b=>by cases b<;>rfl
   cases e2:U==iH with
   |false=>
    refine zero (show gE [U,a',w2,cr] rest=none by unfold gE;simp only[e2,ak]) ?_
    simp only[f180,c1,Y,d,ak,i0,fy,c2,nx,h7,dS,h3,aF,b1,oz,pD,tY,e2]
   |true=>
    have hw:gE [U,a',w2,cr] rest=rT a' w2 cr rest:=by unfold gE;simp only[e2,ad]
    rw[hw];have jR:IntKind.i64.wrap (((rest.length:Nat):Int)-1)=(rest.length:Int)-1:=c' (by omega) (by omega)
    have hin:=oI ((hh cr,((0:Int),((rest.length:Int)-1,()))),());have hin:f75 ((hh cr,((0:Int),((rest.length:Int)-1,()))),())=some ((within (hh cr) 0 ((rest.length:Int)-1),()),()):=hin;cases hi:within (hh cr) 0 ((rest.length:Int)-1) with
    |false=>
     rw[hi] at hin;refine zero (by unfold rT;rw[hi];rfl) ?_
     simp only[f180,c1,Y,d,ak,i0,fy,c2,nx,h7,dS,h3,aF,b1,oz,pD,tY,e2,ad,Oc,dW,je,vx,i1,eC,jR,hin,bJ,bu]
    |true=>
     rw[hi] at hin;have hb:=s4 hi;obtain⟨n,hn⟩:∃n:Nat,hh cr=(n:Int):=⟨(hh cr).toNat,by omega⟩
     rw[hn] at hin je hb;have hlt:n<rest.length:=by omega
     have ej:rT a' w2 cr rest=match rest.drop n with|10::eY=>some (⟨w2,2,hh a',rest.take n⟩,eY)|_=>none:=by
      unfold rT;rw[hi,hn];rfl
     have w1:rest.drop n=rest[n]::rest.drop (n+1):=List.drop_eq_getElem_cons hlt;have hx:aS rest ((n:Nat):Int)=some rest[n]:=by rw[cd];exact dZ hlt
     rw[w1] at ej;rw[ej];generalize rest[n]=b at hx;by_cases sg:b=10
     ·subst sg;have t1:((((10:UInt8).toNat:Nat):Int) !=10)=false:=rfl;have s1:bq rest 0 ((n:Nat):Int)=some (rest.take n):=gw (by omega)
      have axq:IntKind.i64.wrap (((n:Nat):Int)+1)=((n+1:Nat):Int):=b9 (by unfold aA;omega)
      have s2:bq rest ((n+1:Nat):Int) ((rest.length:Nat):Int)=some (rest.drop (n+1)):=fO (by omega)
      refine one rfl ?_
      simp only[f180,c1,Y,d,ak,i0,fy,c2,nx,h7,dS,h3,aF,b1,oz,pD,tY,e2,ad,Oc,dW,je,vx,i1,eC,jR,hin,bJ,bu,hx,t1,qG,dC,ml,cT,n1,s1,axq,s2]
     ·have t1:(((b.toNat:Nat):Int) !=10)=true:=by
       rw[bne_iff_ne];intro h;exact sg (UInt8.toNat_inj.1 (by have:((10:UInt8).toNat:Int)=10:=rfl;omega))
      refine zero (by split<;>first|rfl|(rename_i h;simp at h;exact absurd h.1 sg)) ?_
      simp only[f180,c1,Y,d,ak,i0,fy,c2,nx,h7,dS,h3,aF,b1,oz,pD,tY,e2,ad,Oc,dW,je,vx,i1,eC,jR,hin,bJ,bu,hx,t1]
theorem TJ{s r:B}{e:aB}(h:nW s=some (e,r)):e.path.length<=s.length/\e.text.length<=s.length/\r.length<s.length:=by
 unfold nW at h;cases aC:dK 10 s with
 |none=>rw[aC] at h;cases h
 |some q=>
  obtain⟨b8,rest⟩:=q;rw[aC] at h;have hl:=(jD aC).1;have hl:s.length=b8.length+1+rest.length:=by rw[hl];simp;omega
  have hm:=qM 32 4 b8;have h:gE (splitN 32 4 b8) rest=some (e,r):=h;generalize splitN 32 4 b8=ws at h hm;unfold gE at h;split at h
  ·rename_i U a' w2;have m1:=hm a' (by simp)
   have m2:=hm w2 (by simp)
   cases fa:U==il<;>simp only[fa,ad,ak] at h
   ·cases e1:U==ij<;>simp only[e1,ad,ak] at h
    ·cases h
    ·simp only[bE,Prod.mk.injEq] at h;obtain⟨rfl,rfl⟩:=h;exact⟨by show a'.length<=_;omega,by show w2.length<=_;omega,by omega⟩
   ·simp only[bE,Prod.mk.injEq] at h;obtain⟨rfl,rfl⟩:=h;exact⟨by show w2.length<=_;omega,by show 0<=_;omega,by omega⟩
  ·rename_i U a' w2 cr;have m2:=hm w2 (by simp)
   cases e2:U==iH<;>simp only[e2,ad,ak] at h
   ·cases h
   ·unfold rT at h;cases dn:within (hh cr) 0 ((rest.length:Int)-1)<;>simp only[dn,ad,ak] at h
    ·cases h
    ·split at h
     ·rename_i eY aa;simp only[bE,Prod.mk.injEq] at h;obtain⟨rfl,rfl⟩:=h;have M8:=congrArg List.length aa;simp only[List.length_drop,cW] at M8;exact⟨by show w2.length<=_;omega,by show(rest.take _).length<=_;simp;omega,by omega⟩
     ·cases h
  ·cases h
theorem amB{e:aB}(h:e7 e=true)(r:B):nW (eo e++r)=some (e,r):=by
 have hw:=(F0 h).1;unfold nW;rw[Rf h];show gE (splitN 32 4 (pZ e)) (wV e r)=_;obtain⟨n,hn,iA⟩:=Hg h;have g2:=Gl n (by omega)
 have rV:splitN 32 4 (pZ e)=mD e:=O0 _ 4 (by unfold mD;cases e.kind==1<;>cases e.kind==3<;>simp) hw (by unfold mD;cases e.kind==1<;>cases e.kind==3<;>simp)
 rw[rV];obtain⟨p,k,m,t⟩:=e;have hn:m=n:=hn;subst hn;rcases vz h with hk|hk|hk
 ·have hk:k=1:=hk;subst hk;have ay:t=[]:=Rq h rfl;subst ay;show gE [il,Lib.itoa (n:Int),p] r=_;unfold gE;have e2:(il==il)=true:=by decide
  simp only[e2,g2,ad]
 ·have hk:k=2:=hk;subst hk;have hb:t.length<=80:=by
   have:=P' h rfl;unfold oJ at this;simp only[bC,dY] at this;exact this.2
  have aJ:=Gl t.length (by omega)
  show gE [iH,Lib.itoa (n:Int),p,Lib.itoa (t.length:Int)] (t++10::r)=_;unfold gE;have bz:(iH==iH)=true:=by decide
  simp only[bz,ad];unfold rT;have d1:(t++10::r).drop t.length=10::r:=by simp
  have d2:(t++10::r).take t.length=t:=by simp
  have hw:within (t.length:Int) 0 (((t++10::r).length:Int)-1)=true:=by
   unfold within;rw[decide_eq_true (by omega),decide_eq_true (by simp;omega)]
   rfl
  simp only[aJ,hw,ad,Int.toNat_natCast,d1,d2,g2]
 ·have hk:k=3:=hk;subst hk;obtain⟨_,hm⟩:=FW h rfl;have hm:(n:Int)=0:=hm;show gE [ij,p,t] r=_;unfold gE;have e1:(ij==il)=false:=by decide
  have e2:(ij==ij)=true:=by decide
  simp only[e1,e2,ad,ak];rw[hm]
noncomputable abbrev avR:a8:=[(73,pi),(179,_5)]
theorem xD:aT O (aZ af avR):=aY ⟨ql,asT,⟨⟩⟩
abbrev Pp:Shape:=⟨[ax 2 2 0,ax 5 5 0,bd 6 3000384,am 7,aj 8,bd 9 3000576],[bv 5000130 .need 2 2,bv 5000131 .entry 2 3,aw 2 [ah,ah,.own 5000130,.own 5000131],bv 5000322 .need 5 2,bv 5000323 .entry 5 3,aw 5 [ah,ah,.own 5000322,.own 5000323],bc 3000384 .str 6 0,bc 3000576 .str 9 0],118⟩
abbrev Ph:List aR:=[(.norm,⟨[ax 2 2 0,ax 5 5 0,bd 6 3000384,am 7,aj 8,bd 9 3000576,ar 52],[bv 5000130 .need 2 2,bv 5000131 .entry 2 3,aw 2 [ah,ah,.own 5000130,.own 5000131],bv 5000322 .need 5 2,bv 5000323 .entry 5 3,aw 5 [ah,ah,.own 5000322,.own 5000323],bc 3000384 .str 6 0,bc 3000576 .str 9 0],118⟩)]
noncomputable def lJ(y:Pp.J):Option (aG Ph):=
 bif(y.1.2.2.2.2.1==(1:Int)) then
(bh y.2.2.2.2.2.2.2.2.1.length (0:Int)).bind fun a=>
(y.2.2.2.2.2.2.2.2.1[a]?).bind fun b=>
 bif(b==([112,97,99,107]:B)) then
 some (((),(),(),y.1.2.2.2.1,y.1.2.2.2.2.1,(),((y.2.2.2.2.2.2.2.2.1.length:Int)==(3:Int)),()),y.2.1,y.2.2.1,(y.2.2.2.1.1,y.2.2.2.1.2.1,(),(),()),y.2.2.2.2.1,y.2.2.2.2.2.1,(y.2.2.2.2.2.2.1.1,y.2.2.2.2.2.2.1.2.1,(),(),()),y.2.2.2.2.2.2.2.1,y.2.2.2.2.2.2.2.2.1,())
else
 some (((),(),(),y.1.2.2.2.1,y.1.2.2.2.2.1,(),false,()),y.2.1,y.2.2.1,(y.2.2.2.1.1,y.2.2.2.1.2.1,(),(),()),y.2.2.2.2.1,y.2.2.2.2.2.1,(y.2.2.2.2.2.2.1.1,y.2.2.2.2.2.2.1.2.1,(),(),()),y.2.2.2.2.2.2.2.1,y.2.2.2.2.2.2.2.2.1,())
else
 some (((),(),(),y.1.2.2.2.1,y.1.2.2.2.2.1,(),false,()),y.2.1,y.2.2.1,(y.2.2.2.1.1,y.2.2.2.1.2.1,(),(),()),y.2.2.2.2.1,y.2.2.2.2.2.1,(y.2.2.2.2.2.2.1.1,y.2.2.2.2.2.2.1.2.1,(),(),()),y.2.2.2.2.2.2.2.1,y.2.2.2.2.2.2.2.2.1,())
theorem agD:aV O (ap (di (ap (codeOf Tryz.f126) 1 250)) 500 128156) (aX Pp Ph lJ):=cm xD (by kernel_rfl) ag fun y=>by kernel_rfl
abbrev Po:Shape:=⟨[ax 2 2 0,ax 5 5 0,bd 6 3000384,am 7,aj 8,bd 9 3000576],[bv 5000130 .need 2 2,bv 5000131 .entry 2 3,aw 2 [ah,ah,.own 5000130,.own 5000131],bv 5000322 .need 5 2,bv 5000323 .entry 5 3,aw 5 [ah,ah,.own 5000322,.own 5000323],bc 3000384 .str 6 0,bc 3000576 .str 9 0],118⟩
abbrev Pg:List aR:=[(.norm,⟨[ax 2 2 0,ax 5 5 0,bd 6 3000384,am 7,aj 8,bd 9 3000576,ar 74],[bv 5000130 .need 2 2,bv 5000131 .entry 2 3,aw 2 [ah,ah,.own 5000130,.own 5000131],bv 5000322 .need 5 2,bv 5000323 .entry 5 3,aw 5 [ah,ah,.own 5000322,.own 5000323],bc 3000384 .str 6 0,bc 3000576 .str 9 0],118⟩)]
noncomputable def mv(y:Po.J):Option (aG Pg):=
 bif(decide (y.1.2.2.2.2.1>(1:Int))) then
(bh y.2.2.2.2.2.2.2.1.length y.1.2.2.2.2.1).bind fun a=>
(y.2.2.2.2.2.2.2.1[a]?).bind fun b=>
 some (((),(),(),y.1.2.2.2.1,y.1.2.2.2.2.1,(),(b==([]:B)),()),y.2.1,y.2.2.1,(y.2.2.2.1.1,y.2.2.2.1.2.1,(),(),()),y.2.2.2.2.1,y.2.2.2.2.2.1,(y.2.2.2.2.2.2.1.1,y.2.2.2.2.2.2.1.2.1,(),(),()),y.2.2.2.2.2.2.2.1,y.2.2.2.2.2.2.2.2.1,())
else
 some (((),(),(),y.1.2.2.2.1,y.1.2.2.2.2.1,(),false,()),y.2.1,y.2.2.1,(y.2.2.2.1.1,y.2.2.2.1.2.1,(),(),()),y.2.2.2.2.1,y.2.2.2.2.2.1,(y.2.2.2.2.2.2.1.1,y.2.2.2.2.2.2.1.2.1,(),(),()),y.2.2.2.2.2.2.2.1,y.2.2.2.2.2.2.2.2.1,())
theorem agC:aV O (ap (di (ap (codeOf Tryz.f126) 1 250)) 500 512630) (aX Po Pg mv):=cm xD (by kernel_rfl) ag fun y=>by kernel_rfl
abbrev O1:Shape:=⟨[ax 2 2 0,ax 5 5 0,bd 6 3000384,am 7,aj 8,bd 9 3000576],[bv 5000130 .need 2 2,bv 5000131 .entry 2 3,aw 2 [ah,ah,.own 5000130,.own 5000131],bv 5000322 .need 5 2,bv 5000323 .entry 5 3,aw 5 [ah,ah,.own 5000322,.own 5000323],bc 3000384 .str 6 0,bc 3000576 .str 9 0],118⟩
abbrev OZ:List aR:=[(.norm,⟨[ax 2 2 0,ax 5 5 0,bd 6 3000384,am 7,aj 8,bd 9 3000576,ar 86],[bv 5000130 .need 2 2,bv 5000131 .entry 2 3,aw 2 [ah,ah,.own 5000130,.own 5000131],bv 5000322 .need 5 2,bv 5000323 .entry 5 3,aw 5 [ah,ah,.own 5000322,.own 5000323],bc 3000384 .str 6 0,bc 3000576 .str 9 0],118⟩)]
noncomputable def oo(y:O1.J):Option (aG OZ):=
 bif(decide (y.1.2.2.2.2.1>(1:Int))) then
(bh y.2.2.2.2.2.2.2.2.1.length (0:Int)).bind fun a=>
(y.2.2.2.2.2.2.2.2.1[a]?).bind fun b=>
 bif(b==([110,101,101,100]:B)) then
 some (((),(),(),y.1.2.2.2.1,y.1.2.2.2.2.1,(),((y.2.2.2.2.2.2.2.2.1.length:Int)==(2:Int)),()),y.2.1,y.2.2.1,(y.2.2.2.1.1,y.2.2.2.1.2.1,(),(),()),y.2.2.2.2.1,y.2.2.2.2.2.1,(y.2.2.2.2.2.2.1.1,y.2.2.2.2.2.2.1.2.1,(),(),()),y.2.2.2.2.2.2.2.1,y.2.2.2.2.2.2.2.2.1,())
else
 some (((),(),(),y.1.2.2.2.1,y.1.2.2.2.2.1,(),false,()),y.2.1,y.2.2.1,(y.2.2.2.1.1,y.2.2.2.1.2.1,(),(),()),y.2.2.2.2.1,y.2.2.2.2.2.1,(y.2.2.2.2.2.2.1.1,y.2.2.2.2.2.2.1.2.1,(),(),()),y.2.2.2.2.2.2.2.1,y.2.2.2.2.2.2.2.2.1,())
else
 some (((),(),(),y.1.2.2.2.1,y.1.2.2.2.2.1,(),false,()),y.2.1,y.2.2.1,(y.2.2.2.1.1,y.2.2.2.1.2.1,(),(),()),y.2.2.2.2.1,y.2.2.2.2.2.1,(y.2.2.2.2.2.2.1.1,y.2.2.2.2.2.2.1.2.1,(),(),()),y.2.2.2.2.2.2.2.1,y.2.2.2.2.2.2.2.2.1,())
theorem afT:aV O (ap (di (ap (codeOf Tryz.f126) 1 250)) 500 2050526) (aX O1 OZ oo):=cm xD (by kernel_rfl) ag fun y=>by kernel_rfl
abbrev vN:Shape:=⟨[ax 2 2 0,ax 5 5 0,bd 6 3000384,am 7,aj 8],[bv 5000130 .need 2 2,bv 5000131 .entry 2 3,aw 2 [ah,ah,.own 5000130,.own 5000131],bv 5000322 .need 5 2,bv 5000323 .entry 5 3,aw 5 [ah,ah,.own 5000322,.own 5000323],bc 3000384 .str 6 0],118⟩
abbrev zO:List aR:=[(.ret,⟨[ax 2 2 0,am 3,ar 4],[bv 5000130 .need 2 2,bv 5000131 .entry 2 3,aw 2 [ah,ah,.own 5000130,.own 5000131]],118⟩),(.exit 0,⟨[ax 2 2 0,ax 5 5 0],[bv 5000130 .need 2 2,bv 5000131 .entry 2 3,aw 2 [ah,ah,.own 5000130,.own 5000131],bv 5000322 .need 5 2,bv 5000323 .entry 5 3,aw 5 [ah,ah,.own 5000322,.own 5000323]],118⟩)]
noncomputable def ia(y:vN.J):bP vN zO:=
 bif(decide (y.1.2.2.2.2.1<(y.2.2.2.2.2.2.2.1.length:Int))) then
 bif(decide (y.1.2.2.2.2.1<=(8:Int))) then
(bh y.2.2.2.2.2.2.2.1.length y.1.2.2.2.2.1).bind fun a=>
(y.2.2.2.2.2.2.2.1[a]?).bind fun b=>
(f73 ((b,(32:Int),(2:Int),()),())).bind fun c=>
(bh y.2.2.2.2.2.2.2.1.length y.1.2.2.2.2.1).bind fun d=>
(y.2.2.2.2.2.2.2.1[d]?).bind fun e=>
 bif(decide ((y.1.2.2.2.1.length:Int)<(IntKind.i64.wrap ((e.length:Int)+(1:Int))))) then
 some (.inr (.inl (((),([]:B),false,()),y.2.2.2.2.1,y.2.2.2.2.2.1,(y.2.2.2.2.2.2.1.1,y.2.2.2.2.2.2.1.2.1,(),(),()),())))
else
(bh y.2.2.2.2.2.2.2.1.length y.1.2.2.2.2.1).bind fun f=>
(y.2.2.2.2.2.2.2.1[f]?).bind fun g=>
(bq y.1.2.2.2.1 (IntKind.i64.wrap ((g.length:Int)+(1:Int))) (y.1.2.2.2.1.length:Int)).bind fun h=>
(lJ (((),(),(),h,y.1.2.2.2.2.1,(),()),y.2.1,y.2.2.1,(y.2.2.2.1.1,y.2.2.2.1.2.1,(),(),()),y.2.2.2.2.1,y.2.2.2.2.2.1,(y.2.2.2.2.2.2.1.1,y.2.2.2.2.2.2.1.2.1,(),(),()),y.2.2.2.2.2.2.2.1,c.2.1,())).bind fun i=>
 bif i.1.2.2.2.2.2.2.1 then
(bh i.2.2.2.2.2.2.2.2.1.length (1:Int)).bind fun j=>
(i.2.2.2.2.2.2.2.2.1[j]?).bind fun k=>
(bh i.2.2.2.2.2.2.2.2.1.length (2:Int)).bind fun l=>
(i.2.2.2.2.2.2.2.2.1[l]?).bind fun m=>
 some (.inl (((),(),(),i.1.2.2.2.1,(IntKind.i64.wrap (i.1.2.2.2.2.1+(1:Int))),()),i.2.1,i.2.2.1,(i.2.2.2.1.1,i.2.2.2.1.2.1,(),(),()),i.2.2.2.2.1,i.2.2.2.2.2.1,(k,m,(),(),()),i.2.2.2.2.2.2.2.1,()))
else
(mv (((),(),(),i.1.2.2.2.1,i.1.2.2.2.2.1,(),()),i.2.1,i.2.2.1,(i.2.2.2.1.1,i.2.2.2.1.2.1,(),(),()),i.2.2.2.2.1,i.2.2.2.2.2.1,(i.2.2.2.2.2.2.1.1,i.2.2.2.2.2.2.1.2.1,(),(),()),i.2.2.2.2.2.2.2.1,i.2.2.2.2.2.2.2.2.1,())).bind fun n=>
 bif n.1.2.2.2.2.2.2.1 then
 some (.inr (.inl (((),n.1.2.2.2.1,true,()),n.2.2.2.2.1,n.2.2.2.2.2.1,(n.2.2.2.2.2.2.1.1,n.2.2.2.2.2.2.1.2.1,(),(),()),())))
else
(oo (((),(),(),n.1.2.2.2.1,n.1.2.2.2.2.1,(),()),n.2.1,n.2.2.1,(n.2.2.2.1.1,n.2.2.2.1.2.1,(),(),()),n.2.2.2.2.1,n.2.2.2.2.2.1,(n.2.2.2.2.2.2.1.1,n.2.2.2.2.2.2.1.2.1,(),(),()),n.2.2.2.2.2.2.2.1,n.2.2.2.2.2.2.2.2.1,())).bind fun D=>
 bif D.1.2.2.2.2.2.2.1 then
(bh D.2.2.2.2.2.2.2.2.1.length (1:Int)).bind fun p=>
(D.2.2.2.2.2.2.2.2.1[p]?).bind fun q=>
(f179 ((q,()),())).bind fun r=>
(cl 40 D.2.2.2.2.1 ([(bF.mk r.2.1.1 r.2.1.2.1 r.2.1.2.2.1)]:List bF)).bind fun s=>
 some (.inl (((),(),(),D.1.2.2.2.1,(IntKind.i64.wrap (D.1.2.2.2.2.1+(1:Int))),()),D.2.1,D.2.2.1,(D.2.2.2.1.1,D.2.2.2.1.2.1,(),(),()),s,D.2.2.2.2.2.1,(D.2.2.2.2.2.2.1.1,D.2.2.2.2.2.2.1.2.1,(),(),()),D.2.2.2.2.2.2.2.1,()))
else
 bif(decide (D.1.2.2.2.2.1>(0:Int))) then
 some (.inr (.inl (((),([]:B),false,()),D.2.2.2.2.1,D.2.2.2.2.2.1,(D.2.2.2.2.2.2.1.1,D.2.2.2.2.2.2.1.2.1,(),(),()),())))
else
 some (.inl (((),(),(),D.1.2.2.2.1,(IntKind.i64.wrap (D.1.2.2.2.2.1+(1:Int))),()),D.2.1,D.2.2.1,(D.2.2.2.1.1,D.2.2.2.1.2.1,(),(),()),D.2.2.2.2.1,D.2.2.2.2.2.1,(D.2.2.2.2.2.2.1.1,D.2.2.2.2.2.2.1.2.1,(),(),()),D.2.2.2.2.2.2.2.1,()))
else
 some (.inr (.inr (((),(),()),y.2.1,y.2.2.1,(y.2.2.2.1.1,y.2.2.2.1.2.1,(),(),()),y.2.2.2.2.1,y.2.2.2.2.2.1,(y.2.2.2.2.2.2.1.1,y.2.2.2.2.2.2.1.2.1,(),(),()),())))
else
 some (.inr (.inr (((),(),()),y.2.1,y.2.2.1,(y.2.2.2.1.1,y.2.2.2.1.2.1,(),(),()),y.2.2.2.2.1,y.2.2.2.2.2.1,(y.2.2.2.2.2.2.1.1,y.2.2.2.2.2.2.1.2.1,(),(),()),())))
noncomputable def lO:vN.J->Option (aG zO):=bA ia
theorem alj:aV O (ap (codeOf Tryz.f126) 1 250) (aX vN zO lO):=bR xD (by kernel_rfl) (a7 agD (a7 agC (a7 afT ag))) fun y=>by kernel_rfl
abbrev i126:Shape:=⟨[am 0],[],118⟩
abbrev Lh:Shape:=⟨[ax 2 2 0,am 3,ar 4],[bv 5000130 .need 2 2,bv 5000131 .entry 2 3,aw 2 [ah,ah,.own 5000130,.own 5000131]],118⟩
noncomputable def f126(a:i126.J):Option Lh.J:=
(f73 ((a.1.1,(10:Int),(IntKind.i64.wrap ((a.1.1.length:Int)+(1:Int))),()),())).bind fun b=>
(lO (((),(),(),a.1.1,(0:Int),()),([]:List bF),([]:List aB),(([]:B),([]:B),(),(),()),([]:List bF),([]:List aB),(([]:B),([]:B),(),(),()),b.2.1,())).bind fun c=>
(match c with
|.inl d=>
 some (((),d.1.2.1,d.1.2.2.1,()),d.2.1,d.2.2.1,(d.2.2.2.1.1,d.2.2.2.1.2.1,(),(),()),())
|.inr e=>
 some (((),([]:B),false,()),e.2.2.2.2.1,e.2.2.2.2.2.1,(e.2.2.2.2.2.2.1.1,e.2.2.2.2.2.2.1.2.1,(),(),()),()))
noncomputable def aaA:aH:=aL af Tryz.f126 i126 Lh [] f126
theorem atc:aE O 126 aaA:=aM xD Tryz.func126 (by kernel_rfl) (a7 alj ag) (fun y=>by kernel_rfl) fun a=>by kernel_rfl
noncomputable abbrev avQ:a8:=[(90,yi),(180,_4),(181,L2)]
theorem aba:aT O (aZ af avQ):=aY ⟨D5,asS,XJ,⟨⟩⟩
abbrev Bd:Shape:=⟨[am 0,bd 4 3000256,am 5],[bc 3000256 .entry 4 0],41⟩
abbrev Iy:List aR:=[(.ret,⟨[bd 2 3000128,ar 3],[bc 3000128 .entry 2 0],41⟩),(.exit 0,⟨[am 0,bd 4 3000256],[bc 3000256 .entry 4 0],41⟩)]
noncomputable def rh(y:Bd.J):bP Bd Iy:=
 bif(!(y.1.2.2.1==([]:B))) then
 bif(decide ((y.2.1.length:Int)<=(16:Int))) then
(f180 ((y.1.2.2.1,()),())).bind fun a=>
 bif(!a.1.2.2.1) then
 some (.inr (.inl (((),false,()),y.2.1,())))
else
(cl 48 y.2.1 ([(aB.mk a.2.1.1 a.2.1.2.1 a.2.1.2.2.1 a.2.1.2.2.2.1)]:List aB)).bind fun b=>
 some (.inl ((y.1.1,(),a.1.2.1,()),b,()))
else
 some (.inr (.inr ((y.1.1,(),()),y.2.1,())))
else
 some (.inr (.inr ((y.1.1,(),()),y.2.1,())))
noncomputable def wb:Bd.J->Option (aG Iy):=bA rh
theorem anA:aV O (ap (codeOf Tryz.f127) 1 60) (aX Bd Iy wb):=bR aba (by kernel_rfl) ag fun y=>by kernel_rfl
abbrev i127:Shape:=⟨[am 0],[],41⟩
abbrev Zu:Shape:=⟨[bd 2 3000128,ar 3],[bc 3000128 .entry 2 0],41⟩
noncomputable def f127(a:i127.J):Option Zu.J:=
(wb ((a.1.1,(),a.1.1,()),([]:List aB),())).bind fun b=>
(match b with
|.inl c=>
 some (((),c.1.2.1,()),c.2.1,())
|.inr d=>
(f90 ((d.2.1,()),())).bind fun e=>
 bif e.1.1 then
(f181 ((d.2.1,()),())).bind fun f=>
 some (((),(f.1.1==d.1.1),()),d.2.1,())
else
 some (((),false,()),d.2.1,()))
noncomputable def aaz:aH:=aL af Tryz.f127 i127 Zu [] f127
theorem z127:aE O 127 aaz:=aM aba Tryz.func127 (by kernel_rfl) (a7 anA ag) (fun y=>by kernel_rfl) fun a=>by kernel_rfl
theorem apO(s:B):∀(m:Nat) (r:B) (t:List aB),r.length<=m->m<=2000000->t.length<=17->qk 2000000 t->
  ∃ns:List aB,ns.length<=17/\qk 2000000 ns/\(wb ((s,((),(r,()))),(t,()))=some (.inr ((s,((),())),(ns,())))\/wb ((s,((),(r,()))),(t,()))=some (.inl (((),(false,())),(ns,())))):=by
 intro m;induction m with
 |zero=>
  intro r t hs _ ay ha;have:r=[]:=List.length_eq_zero_iff.1 (by omega)
  subst this;exact⟨t,ay,ha,.inl (cC rfl)⟩
 |succ m ih=>
  intro r t hs hm ay ha;cases r with
  |nil=>exact⟨t,ay,ha,.inl (cC rfl)⟩
  |cons b r0=>
   have hne:((b::r0)==([]:B))=false:=rfl;generalize eZ:b::r0=r at hs hne;by_cases yf:t.length<=16
   ·have d:decide (((t.length:Nat):Int)<=16)=true:=decide_eq_true (by omega)
    obtain⟨eY,e,h1,h2⟩:=RI r (by omega)
    cases hr:nW r with
    |none=>
     rw[hr] at h1;refine⟨t,ay,ha,.inr (cC ?_)⟩;simp only[rh,hne,bJ,ad,d,h1,Y,Option.isSome_none]
    |some q=>
     have aC:=h2 q hr;subst aC;rw[hr] at h1;obtain⟨ed,fU,vd⟩:=TJ hr;have fJ:cl 48 t ([(aB.mk e.path e.kind e.mode e.text)]:List aB)=some (t++[e]):=dy (by decide) (by unfold aA;simp;omega)
     have st:rh ((s,((),(r,()))),(t,()))=some (.inl ((s,((),(eY,()))),(t++[e],()))):=by
      simp only[rh,hne,bJ,ad,d,h1,Y,Option.isSome_some,bu,ak,fJ]
     obtain⟨ns,g1,g2,g3⟩:=ih eY (t++[e]) (by omega) (by omega) (by simp;omega) (fun x hx=>by
      rcases bp.1 hx with hx|hx
      ·exact ha x hx
      ·rw[List.mem_singleton.1 hx];exact⟨by omega,by omega⟩)
     exact⟨ns,g1,g2,g3.imp (d' st).trans (d' st).trans⟩
   ·have d:decide (((t.length:Nat):Int)<=16)=false:=decide_eq_false (by omega)
    refine⟨t,ay,ha,.inl (cC ?_)⟩;simp only[rh,hne,bJ,ad,d,ak]
theorem apN(s:B):∀(cv t:List aB),(∀e,e∈cv->e7 e=true)->t.length+cv.length<=16->(dt cv).length<=2000000->
  wb ((s,((),(dt cv,()))),(t,()))=some (.inr ((s,((),())),(t++cv,()))):=by
 intro cv;induction cv with
 |nil=>intro t _ _ _;rw[List.append_nil];exact cC rfl
 |cons e cv ih=>
  intro t h ay hl;have he:=h e ci;have hr:=amB he (dt cv);have hE:dt (e::cv)=eo e++dt cv:=by unfold dt;rw[List.flatMap_cons]
  rw[hE] at hl ⊢;have hlen:=(TJ hr).2.2;have hne:((eo e++dt cv)==([]:B))=false:=by
   cases hx:eo e++dt cv with
   |nil=>rw[hx] at hlen;simp at hlen
   |cons b r=>rfl
  obtain⟨r,cU,h1,h2⟩:=RI (eo e++dt cv) hl;have aC:=h2 _ hr;simp only[Prod.mk.injEq] at aC;obtain⟨rfl,rfl⟩:=aC;rw[hr] at h1;have d:decide (((t.length:Nat):Int)<=16)=true:=decide_eq_true (by omega)
  have fJ:cl 48 t ([(aB.mk e.path e.kind e.mode e.text)]:List aB)=some (t++[e]):=dy (by decide) (by unfold aA;simp;simp at ay;omega)
  have st:rh ((s,((),(eo e++dt cv,()))),(t,()))=some (.inl ((s,((),(dt cv,()))),(t++[e],()))):=by
   simp only[rh,hne,bJ,ad,d,h1,Y,Option.isSome_some,bu,ak,fJ]
  have:=ih (t++[e]) (fun x hx=>h x (cf _ hx)) (by simp at ay ⊢;omega) (by omega)
  rw[List.append_assoc] at this;exact(d' st).trans this
theorem Uy{t:List aB}(hl:t.length<=17)(h:qk 2000000 t):iL t:=⟨by show t.length<=2097152;omega,fun e he=>by have:=h e he;exact⟨by show e.path.length<=2097152;omega,by show e.text.length<=2097152;omega⟩⟩
theorem aeZ(s:B)(hs:s.length<=2000000):∃(ok:Bool) (t:List aB),f127 ((s,()),())=some (((),(ok,())),(t,()))/\t.length<=17/\qk 2000000 t:=by
 obtain⟨ns,g1,g2,g3⟩:=apO s s.length s [] (Nat.le_refl _) hs (by decide) (fun x hx=>by cases hx)
 rcases g3 with g3|g3
 ·have hb:=Uy g1 g2;have ay:=vK ((ns,()),()) hb;have ay:f90 ((ns,()),())=some ((dQ ns,()),()):=ay;cases hk:dQ ns with
  |false=>
   rw[hk] at ay;exact⟨false,ns,by simp only[f127,g3,Y,ay,ak],g1,g2⟩
  |true=>
   rw[hk] at ay;have hl:=F2 ns (qQ hk) hb (j3 hk);exact⟨_,ns,by simp only[f127,g3,Y,ay,ad,hl];rfl,g1,g2⟩
 ·exact⟨false,ns,by simp only[f127,g3,Y],g1,g2⟩
theorem aeY(t:List aB)(h:dQ t=true)(hs:(dt t).length<=2000000)(hb:iL t):
  f127 ((dt t,()),())=some (((),(true,())),(t,())):=by
 have g1:=apN (dt t) t [] (vu h) (by have:=j3 h;simpa using this) hs
 have ay:=vK ((t,()),()) hb;have ay:f90 ((t,()),())=some ((dQ t,()),()):=ay;rw[h] at ay;have hl:=F2 t (qQ h) hb (j3 h);simp only[f127,g1,List.nil_append,Y,ay,ad,hl,beq_self_eq_true]
theorem ajq{n:bF}(h:dR n=true):cn 32 (cX n):=by
 obtain⟨h1,h2⟩:=yV h;have hs:cn 32 (ea n.kind):=by unfold ea;cases n.kind==1<;>cases n.kind==2<;>cases n.kind==3<;>exact cn.lit (by decide)
 refine((XW h1).df hs).df ?_
 rcases h2 with⟨_,h2⟩|⟨_,h2⟩
 ·rw[h2];exact cn.nil _
 ·exact XO h2
abbrev iC(rest:B)(i:Int)(ns:List bF)(bW vs:B)(lines:List B):vN.J:=(((),((),((),(rest,(i,()))))),(([]:List bF),(([]:List aB),((([]:B),(([]:B),((),((),())))),(ns,(([]:List aB),((bW,(vs,((),((),())))),(lines,()))))))))
abbrev qJ(r:B)(ok:Bool)(ns:List bF)(bW vs:B):Lh.J:=(((),(r,(ok,()))),(ns,(([]:List aB),((bW,(vs,((),((),())))),()))))
abbrev OC(ns:List bF)(bW vs:B):aG zO:=.inr (((),((),())),(([]:List bF),(([]:List aB),((([]:B),(([]:B),((),((),())))),(ns,(([]:List aB),((bW,(vs,((),((),())))),())))))))
abbrev qK(k:Nat)(r:B)(ns:List bF)(bW vs:B):Prop:=r.length<=k/\ns.length<=9/\uy k ns/\bW.length<=k/\vs.length<=k
theorem apL(K:Nat)(b5:K<=2000000)(lines:List B)(dX:∀x,x∈lines->x.length<=K):∀(k i:Nat) (rest:B) (ns:List bF) (bW vs:B),k+i=9->rest.length<=K->ns.length<=i->uy K ns->bW.length<=K->vs.length<=K->
  ∃(r:B) (ok:Bool) (li:List bF) (lj cH:B),qK K r li lj cH/\(lO (iC rest (i:Int) ns bW vs lines)=some (.inl (qJ r ok li lj cH))\/lO (iC rest (i:Int) ns bW vs lines)=some (OC li lj cH)):=by
 intro k;induction k with
 |zero=>
  intro i rest ns bW vs hi hr hn ha h1 h2;refine⟨[],false,ns,bW,vs,⟨Nat.zero_le _,by omega,ha,h1,h2⟩,.inr (cC ?_)⟩
  have d:decide ((i:Int)<=8)=false:=decide_eq_false (by omega)
  simp only[ia,d,ak];cases decide ((i:Int)<(lines.length:Int))<;>rfl
 |succ k ih=>
  intro i rest ns bW vs hi hr hn ha h1 h2;have d:decide ((i:Int)<=8)=true:=decide_eq_true (by omega)
  by_cases hlt:i<lines.length
  ·have hx:lines[i]? =some lines[i]:=dZ hlt;have hxl:=dX _ (List.getElem_mem hlt);generalize lines[i]=x at hx hxl;have hin:bh lines.length (i:Int)=some i:=fQ hlt;have hw1:IntKind.i64.wrap (((x.length:Nat):Int)+1)=((x.length+1:Nat):Int):=b9 (by unfold aA;omega)
   have lk:IntKind.i64.wrap (((i:Nat):Int)+1)=((i+1:Nat):Int):=b9 (by unfold aA;omega)
   have c2:=mw 32 x (by omega) 2
   have c2:f73 ((x,((32:Int),((2:Int),()))),())=_:=c2;have hm:=qM 32 2 x;have hp:=PS 32 2 x;generalize splitN 32 2 x=ws at c2 hm hp;obtain⟨U,more,rfl⟩:∃U more,ws=U::more:=by
    cases ws with
    |nil=>exact absurd hp (by decide)
    |cons a b=>exact⟨a,b,rfl⟩
   have h7:bh (U::more).length (0:Int)=some 0:=ML (by simp)
   have dS:(U::more)[0]? =some U:=rfl;by_cases hlen:rest.length<x.length+1
   ·have j0:decide (((rest.length:Nat):Int)<((x.length+1:Nat):Int))=true:=decide_eq_true (by omega)
    refine⟨[],false,ns,bW,vs,⟨Nat.zero_le _,by omega,ha,h1,h2⟩,.inl (cC ?_)⟩
    simp only[ia,ct hlt,d,ad,hin,Y,hx,c2,hw1,j0]
   ·have j0:decide (((rest.length:Nat):Int)<((x.length+1:Nat):Int))=false:=decide_eq_false (by omega)
    have hs:bq rest ((x.length+1:Nat):Int) ((rest.length:Nat):Int)=some (rest.drop (x.length+1)):=fO (by omega)
    have m':(rest.drop (x.length+1)).length<=K:=by simp;omega
    generalize rest.drop (x.length+1)=r1 at hs m';have go:∀(xS:List bF) (Ek xI:B),xS.length<=i+1->uy K xS->Ek.length<=K->xI.length<=K->ia (iC rest (i:Int) ns bW vs lines)=some (.inl (iC r1 ((i+1:Nat):Int) xS Ek xI lines))->
      ∃(r:B) (ok:Bool) (li:List bF) (lj cH:B),qK K r li lj cH/\(lO (iC rest (i:Int) ns bW vs lines)=some (.inl (qJ r ok li lj cH))\/lO (iC rest (i:Int) ns bW vs lines)=some (OC li lj cH)):=by
     intro xS Ek xI q1 q2 ec nk E1;obtain⟨r,ok,li,lj,cH,b,e⟩:=ih (i+1) r1 xS Ek xI (by omega) m' q1 q2 ec nk
     exact⟨r,ok,li,lj,cH,b,e.imp (d' E1).trans (d' E1).trans⟩
    have stop:∀(r:B) (ok:Bool),r.length<=K->ia (iC rest (i:Int) ns bW vs lines)=some (.inr (.inl (qJ r ok ns bW vs)))->
      ∃(r:B) (ok:Bool) (li:List bF) (lj cH:B),qK K r li lj cH/\(lO (iC rest (i:Int) ns bW vs lines)=some (.inl (qJ r ok li lj cH))\/lO (iC rest (i:Int) ns bW vs lines)=some (OC li lj cH)):=
     fun r ok q1 q2=>⟨r,ok,ns,bW,vs,⟨q1,by omega,ha,h1,h2⟩,.inl (cC q2)⟩
    match i,hn,hi,hin,lk,hlt,hx,d,go,stop,ih with
    |0,hn,hi,hin,lk,hlt,hx,d,go,stop,ih=>
     refine go ns bW vs (by omega) ha h1 h2 ?_
     have t1:((((0:Nat):Int))==1)=false:=rfl;have t2:decide ((((0:Nat):Int))>1)=false:=rfl;have t3:decide ((((0:Nat):Int))>0)=false:=rfl;simp only[ia,ct hlt,d,ad,hin,Y,hx,c2,hw1,j0,ak,hs,lJ,t1,mv,t2,oo,t3,lk]
    |1,hn,hi,hin,lk,hlt,hx,d,go,stop,ih=>
     have t1:((((1:Nat):Int))==1)=true:=rfl;have t2:decide ((((1:Nat):Int))>1)=false:=rfl;have t3:decide ((((1:Nat):Int))>0)=true:=rfl;cases hc:(U==([112,97,99,107]:B))&&(((U::more).length:Int)==3) with
     |true=>
      rw[bC] at hc;obtain⟨a',w2,rfl⟩:∃a' w2,more=[a',w2]:=by
       have:more.length=2:=by have:=eq_of_beq hc.2;simp at this;omega
       match more,this with
       |[a,b],_=>exact⟨a,b,rfl⟩
      refine go ns a' w2 (by omega) ha (by have:=hm a' (by simp);omega) (by have:=hm w2 (by simp);omega) ?_
      have ml:bh ([U,a',w2]:List B).length (1:Int)=some 1:=rfl;have qG:bh ([U,a',w2]:List B).length (2:Int)=some 2:=rfl;have cT:([U,a',w2]:List B)[1]? =some a':=rfl;have dC:([U,a',w2]:List B)[2]? =some w2:=rfl;simp only[ia,ct hlt,d,ad,hin,Y,hx,c2,hw1,j0,ak,hs,lJ,t1,h7,dS,hc.1,hc.2,ml,qG,cT,dC,lk]
     |false=>
      refine stop [] false (Nat.zero_le _) ?_
      simp only[ia,ct hlt,d,ad,hin,Y,hx,c2,hw1,j0,ak,hs,lJ,t1,h7,dS];cases bo:U==([112,97,99,107]:B) with
      |false=>simp only[ak,Y,mv,t2,oo,t3,ad]
      |true=>
       rw[bo,Bool.true_and] at hc;simp only[ad,hc,ak,Y,mv,t2,oo,t3]
    |j+2,hn,hi,hin,lk,hlt,hx,d,go,stop,ih=>
     have t1:((((j+2:Nat):Int))==1)=false:=by rw[beq_eq_false_iff_ne];omega
     have t2:decide ((((j+2:Nat):Int))>1)=true:=decide_eq_true (by omega)
     have t3:decide ((((j+2:Nat):Int))>0)=true:=decide_eq_true (by omega)
     cases hxe:x==([]:B) with
     |true=>
      refine stop r1 true m' ?_
      simp only[ia,ct hlt,d,ad,hin,Y,hx,c2,hw1,j0,ak,hs,lJ,t1,mv,t2,hxe]
     |false=>
      cases hc:(U==([110,101,101,100]:B))&&(((U::more).length:Int)==2) with
      |true=>
       rw[bC] at hc;obtain⟨a',rfl⟩:∃a',more=[a']:=by
        have:more.length=1:=by have:=eq_of_beq hc.2;simp at this;omega
        match more,this with
        |[a],_=>exact⟨a,rfl⟩
       have aCL:=hm a' (by simp)
       obtain⟨n,ok,e1,e2,bz⟩:=agf a' (by omega)
       have fJ:cl 40 ns ([(bF.mk n.name n.kind n.a6)]:List bF)=some (ns++[n]):=dy (by decide) (by unfold aA;simp;omega)
       refine go (ns++[n]) bW vs (by simp;omega) (fun z hz=>by
        rcases bp.1 hz with hz|hz
        ·exact ha z hz
        ·rw[List.mem_singleton.1 hz];exact⟨by omega,by omega⟩) h1 h2 ?_
       have ml:bh ([U,a']:List B).length (1:Int)=some 1:=rfl;have cT:([U,a']:List B)[1]? =some a':=rfl;simp only[ia,ct hlt,d,ad,hin,Y,hx,c2,hw1,j0,ak,hs,lJ,t1,mv,t2,hxe,oo,h7,dS,hc.1,hc.2,ml,cT,e1,fJ,lk]
      |false=>
       refine stop [] false (Nat.zero_le _) ?_
       simp only[ia,ct hlt,d,ad,hin,Y,hx,c2,hw1,j0,ak,hs,lJ,t1,mv,t2,hxe,oo,h7,dS];cases bo:U==([110,101,101,100]:B) with
       |false=>simp only[ak,Y,t3,ad]
       |true=>
        rw[bo,Bool.true_and] at hc;simp only[ad,hc,ak,Y,t3]
  ·have aBN:decide ((i:Int)<(lines.length:Int))=false:=decide_eq_false (by omega)
   refine⟨[],false,ns,bW,vs,⟨Nat.zero_le _,by omega,ha,h1,h2⟩,.inr (cC ?_)⟩
   simp only[ia,aBN,ak]
theorem afA(s:B)(hs:s.length<=2000000):∃(r:B) (ok:Bool) (ns:List bF) (bW vs:B),f126 ((s,()),())=some (qJ r ok ns bW vs)/\qK s.length r ns bW vs:=by
 have hw:IntKind.i64.wrap (((s.length:Nat):Int)+1)=((s.length+1:Nat):Int):=b9 (by unfold aA;omega)
 have c1:=mw 10 s (by omega) (s.length+1)
 have c1:f73 ((s,((10:Int),(((s.length+1:Nat):Int),()))),())=_:=c1;obtain⟨r,ok,ns,bW,vs,hb,e⟩:=apL s.length hs (splitN 10 (s.length+1) s) (qM 10 _ s) 9 0 s [] [] [] rfl (Nat.le_refl _) (Nat.zero_le _) (fun x hx=>by cases hx) (Nat.zero_le _) (Nat.zero_le _)
 rcases e with e|e
 ·have e:lO (iC s (0:Int) [] [] [] (splitN 10 (s.length+1) s))=_:=e;refine⟨r,ok,ns,bW,vs,?_,hb⟩;simp only[f126,hw,c1,Y,e]
 ·have e:lO (iC s (0:Int) [] [] [] (splitN 10 (s.length+1) s))=_:=e;refine⟨[],false,ns,bW,vs,?_,⟨Nat.zero_le _,hb.2⟩⟩;simp only[f126,hw,c1,Y,e]
end Go.Proofs
